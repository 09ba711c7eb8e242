import PyProof.Rows.All
import Wide.All
import OpenK.AllK
import Wide.FinOn
import HandS.ForMost
import HandS.ForExc
import HandS.Wide
import HandS.ExcOwn
import HandS.Lambda
import HandS.IsInst
import KE.DataEq
import KE.Datum
import HandS.ExcCtx
import HandS.Style
import KE.DataMinMax
import KE.DataFind
import KE.DatumOrd
import KE.DataCmp
import HandS.Iter
import HandS.Text
import HandS.TupAny
import HandS.NoneIn
import HandS.Dict
import HandS.ClsMeth
import PyProof.ReprLen
import HandS.Ends
import PyProof.ReprRoads
import KE.GoesEnum
import KE.GoesZip
import KE.GoesMore
import HandS.RaiseMore
import PyProof.FitsInt
import KE.KIntText
import PyProof.StrBlock2
import HandS.Exc
import HandS.ExcIs
import HandS.CallLocal
import KE.KExcIs
import HandS.ExcInit
import HandS.ExcField
import HandS.HotCalls
import HandS.ExcInitHot
import PyProof.TupleOfSeq
import PyProof.Rows.SortShellAny
import PyProof.Rows.SortStr
import HandS.Comp
import KE.RegKIsAll
import KE.RegKTryMore
import PySem.Challenge.RW_hallclock_k01_words
set_option Elab.async false
set_option linter.all false
set_option maxRecDepth 100000
set_option maxHeartbeats 4000000
/-! F1: data, cells, the relation between a def's running state and its plain image. -/
namespace My
open PySem L2

/-- plain data -/
inductive D where
  | v (x : V)
  | tup (ds : List D)
  | lst (ds : List D)
  | scr (ds : List D)
  | dct (kvs : List (Key × D))
  | ins (C : Addr) (fs : List (Str × D))
  | loc (n : Nat)
  | exn (a : Addr) (od : Option Addr) (cls : Value) (fld : Option (Str × D))
/-- what an owned object holds -/
inductive Cell where
  | lst (ds : List D)
  | dct (kvs : List (Key × D))
  | ins (C : Addr) (fs : List (Str × D))
  | lck (kvs : List (Key × D))
  | gone
/-- nobody else's -/
def Cell.live : Cell → Prop
  | .gone => False
  | .lck _ => False
  | _ => True
/-- a dict while a loop walks it -/
def Cell.lk : Cell → Prop
  | .lck _ => True
  | _ => False
inductive Slot where
  | no
  | d (x : D)
  | own (m : Cell)
structure Stt where
  r : List Slot
  S : List Cell
/-- an exception: its class, its one field -/
structure Exn where
  cls : Value
  fld : Option (Str × D)
inductive R (α : Type) where
  | ok (a : α) (c : Stt)
  | ex (e : Exn) (c : Stt)
  | no
abbrev M (α : Type) := Stt → R α

mutual
inductive Rep (K : PySem.W.Frag) (F : Hp) (μ : List Addr) : V → D → Prop
  | v (x : V) : Rep K F μ x (.v x)
  | tup {a : Addr} {vs : List V} {ds : List D} : SqT K F a vs → Reps K F μ vs ds → Rep K F μ (.ref a) (.tup ds)
  | lst {a : Addr} {vs : List V} {ds : List D} : F a = some (.lst vs) → Reps K F μ vs ds → Rep K F μ (.ref a) (.lst ds)
  | scr {a : Addr} {vs : List V} {ds : List D} : SqL K F a vs → Reps K F μ vs ds → Rep K F μ (.ref a) (.scr ds)
  | dct {a : Addr} {kvs : List (Key × V)} {ds : List (Key × D)} : F a = some (.dK kvs) → kvs.map (·.1) = ds.map (·.1) → Reps K F μ (kvs.map (·.2)) (ds.map (·.2)) → Rep K F μ (.ref a) (.dct ds)
  | ins {a C dx : Addr} {fs : List (Str × V)} {ds : List (Str × D)} : F a = some (.ins C dx fs) → fs.map (·.1) = ds.map (·.1) → Reps K F μ (fs.map (·.2)) (ds.map (·.2)) → Rep K F μ (.ref a) (.ins C ds)
  | loc {n : Nat} {a : Addr} : μ[n]? = some a → Rep K F μ (.ref a) (.loc n)
  | exn0 {a : Addr} {cls : Value} : Rep K F μ (.ref a) (.exn a none cls none)
  | exn1 {a d : Addr} {cls : Value} {f : Str} {v : V} {x : D} : F d = some (.xd [(f, v)]) → Rep K F μ v x → Rep K F μ (.ref a) (.exn a (some d) cls (some (f, x)))
inductive Reps (K : PySem.W.Frag) (F : Hp) (μ : List Addr) : List V → List D → Prop
  | nil : Reps K F μ [] []
  | cons {v : V} {d : D} {vs : List V} {ds : List D} : Rep K F μ v d → Reps K F μ vs ds → Reps K F μ (v :: vs) (d :: ds)
end

/-- the world has grown -/
structure Le (F : Hp) (μ : List Addr) (F' : Hp) (μ' : List Addr) : Prop where
  ex : Same F F'
  mu : ∀ (n : Nat) (a : Addr), μ[n]? = some a → μ'[n]? = some a
theorem Le.refl (F : Hp) (μ : List Addr) : Le F μ F μ := ⟨Same.refl F, fun _ _ h => h⟩
theorem Le.trans {F F1 F2 : Hp} {μ μ1 μ2 : List Addr} (a : Le F μ F1 μ1) (b : Le F1 μ1 F2 μ2) : Le F μ F2 μ2 := ⟨a.ex.trans b.ex, fun n x h => b.mu n x (a.mu n x h)⟩
theorem Same.seqT {K : PySem.W.Frag} {H H' : Hp} {a : Addr} {xs : List V} (e : Same H H') (h : SqT K H a xs) : SqT K H' a xs := by
  rcases h with (h | ⟨o, h⟩) | h
  · exact .inl (.inl (e _ _ h))
  · exact .inl (.inr ⟨o, e _ _ h⟩)
  · exact .inr h
theorem same_new {H : Hp} {p : Addr} {o : HO} (h : H p = none) : Same H (upd H p o) := fun b x e => by
  rw [upd_ne (ne_of_none e h)]
  exact e
section
variable {K : PySem.W.Frag} {F F' : Hp} {μ μ' : List Addr}
mutual
theorem Rep.mono (le : Le F μ F' μ') : ∀ {v : V} {d : D}, Rep K F μ v d → Rep K F' μ' v d
  | _, _, .v x => .v x
  | _, _, .tup h r => .tup (Same.seqT le.ex h) (Reps.mono le r)
  | _, _, .lst h r => .lst (le.ex _ _ h) (Reps.mono le r)
  | _, _, .scr h r => .scr (le.ex.seq h) (Reps.mono le r)
  | _, _, .dct h k r => .dct (le.ex _ _ h) k (Reps.mono le r)
  | _, _, .ins h k r => .ins (le.ex _ _ h) k (Reps.mono le r)
  | _, _, .loc h => .loc (le.mu _ _ h)
  | _, _, .exn0 => .exn0
  | _, _, .exn1 h r => .exn1 (le.ex _ _ h) (Rep.mono le r)
theorem Reps.mono (le : Le F μ F' μ') : ∀ {vs : List V} {ds : List D}, Reps K F μ vs ds → Reps K F' μ' vs ds
  | _, _, .nil => .nil
  | _, _, .cons h r => .cons (Rep.mono le h) (Reps.mono le r)
end
theorem Reps.length : ∀ {vs : List V} {ds : List D}, Reps K F μ vs ds → vs.length = ds.length
  | _, _, .nil => rfl
  | _, _, .cons _ r => congrArg (· + 1) (Reps.length r)
theorem Reps.append : ∀ {vs ws : List V} {ds es : List D}, Reps K F μ vs ds → Reps K F μ ws es → Reps K F μ (vs ++ ws) (ds ++ es)
  | _, _, _, _, .nil, s => s
  | _, _, _, _, .cons h r, s => .cons h (Reps.append r s)
theorem Reps.get : ∀ {vs : List V} {ds : List D} {i : Nat} {d : D}, Reps K F μ vs ds → ds[i]? = some d → ∃ v, vs[i]? = some v ∧ Rep K F μ v d
  | _, _, _, _, .nil, e => by simp at e
  | _, _, 0, _, .cons h _, e => by simp at e; subst e; exact ⟨_, rfl, h⟩
  | _, _, i + 1, d, .cons _ r, e => by
    obtain ⟨v, h1, h2⟩ := Reps.get (i := i) (d := d) r (by simpa using e)
    exact ⟨v, by simpa using h1, h2⟩
theorem Reps.getV {vs : List V} {ds : List D} {i : Nat} {v : V} (h : Reps K F μ vs ds) (e : vs[i]? = some v) : ∃ d, ds[i]? = some d ∧ Rep K F μ v d := by
  have hi := (List.getElem?_eq_some_iff.mp e).1
  have hj : i < ds.length := by rw [← h.length]; exact hi
  obtain ⟨w, h1, h2⟩ := h.get (List.getElem?_eq_getElem hj)
  rw [e] at h1
  cases h1
  exact ⟨_, List.getElem?_eq_getElem hj, h2⟩
theorem Reps.take : ∀ {vs : List V} {ds : List D} (n : Nat), Reps K F μ vs ds → Reps K F μ (vs.take n) (ds.take n)
  | _, _, 0, _ => .nil
  | _, _, _ + 1, .nil => .nil
  | _, _, n + 1, .cons h r => .cons h (Reps.take n r)
theorem Reps.drop : ∀ {vs : List V} {ds : List D} (n : Nat), Reps K F μ vs ds → Reps K F μ (vs.drop n) (ds.drop n)
  | _, _, 0, r => r
  | _, _, _ + 1, .nil => .nil
  | _, _, n + 1, .cons _ r => Reps.drop n r
theorem Reps.set {v : V} {d : D} (h : Rep K F μ v d) : ∀ {vs : List V} {ds : List D} (i : Nat), Reps K F μ vs ds → Reps K F μ (vs.set i v) (ds.set i d)
  | _, _, _, .nil => .nil
  | _, _, 0, .cons _ t => .cons h t
  | _, _, i + 1, .cons q t => .cons q (Reps.set h i t)
theorem Reps.snoc {vs : List V} {ds : List D} {v : V} {d : D} (r : Reps K F μ vs ds) (h : Rep K F μ v d) : Reps K F μ (vs ++ [v]) (ds ++ [d]) := r.append (.cons h .nil)
theorem Reps.dropLast {vs : List V} {ds : List D} (h : Reps K F μ vs ds) : Reps K F μ vs.dropLast ds.dropLast := by
  rw [List.dropLast_eq_take, List.dropLast_eq_take, h.length]
  exact h.take _
theorem Reps.map_v : ∀ (xs : List V), Reps K F μ xs (xs.map .v)
  | [] => .nil
  | x :: xs => .cons (.v x) (Reps.map_v xs)
theorem Reps.of_v : ∀ {vs xs : List V}, Reps K F μ vs (xs.map D.v) → vs = xs
  | vs, [], h => by cases h; rfl
  | vs, x :: xs, h => by
    cases h with
    | cons a r =>
      cases a
      rw [Reps.of_v r]
theorem Reps.rep {vs : List V} {ds : List D} (h : Reps K F μ vs ds) : ∀ k : Nat, Reps K F μ (List.replicate k vs).flatten (List.replicate k ds).flatten
  | 0 => .nil
  | k + 1 => by
    rw [List.replicate_succ, List.replicate_succ, List.flatten_cons, List.flatten_cons]
    exact h.append (Reps.rep h k)
end

theorem lkE {m : Cell} (h : m.live) (g : m.lk) : False := by
  cases m <;> first | exact h | exact g
/-- an owned object's content -/
inductive CellO (K : PySem.W.Frag) (F : Hp) (μ : List Addr) : HO → Cell → Prop
  | lst {vs : List V} {ds : List D} : Reps K F μ vs ds → CellO K F μ (.lst vs) (.lst ds)
  | dct {kvs : List (Key × V)} {ds : List (Key × D)} : kvs.map (·.1) = ds.map (·.1) → Reps K F μ (kvs.map (·.2)) (ds.map (·.2)) → CellO K F μ (.dK kvs) (.dct ds)
  | ins {C dx : Addr} {fs : List (Str × V)} {ds : List (Str × D)} : fs.map (·.1) = ds.map (·.1) → Reps K F μ (fs.map (·.2)) (ds.map (·.2)) → CellO K F μ (.ins C dx fs) (.ins C ds)
  | lck {ob : Obj} {kvs : List (Key × V)} {ds : List (Key × D)} : kvs.map (·.1) = ds.map (·.1) → Reps K F μ (kvs.map (·.2)) (ds.map (·.2)) → CellO K F μ (.frz ob (.dK kvs)) (.lck ds)
  | gone {o : HO} : CellO K F μ o .gone
theorem CellO.mono {K : PySem.W.Frag} {F F' : Hp} {μ μ' : List Addr} {o : HO} {m : Cell} (le : Le F μ F' μ') (h : CellO K F μ o m) : CellO K F' μ' o m := by
  cases h with
  | lst r => exact .lst (r.mono le)
  | dct k r => exact .dct k (r.mono le)
  | ins k r => exact .ins k (r.mono le)
  | lck k r => exact .lck k (r.mono le)
  | gone => exact .gone

structure CellAt (K : PySem.W.Frag) (Z F : Hp) (μ : List Addr) (H : Hp) (a : Addr) (m : Cell) : Prop where
  z : Z a = none
  f : m.live → F a = none
  o : ∃ o, H a = some o ∧ CellO K F μ o m
  l : m.lk → F a = H a
/-- the tables of code objects that grow: of defs that make functions -/
class TabEnv where
  T : List (Addr × Str)
variable [TabEnv]
/-- the state and its image: F what stands for good, Z what others own, μ where the store's objects are -/
structure Rel (K : PySem.W.Frag) (Z F : Hp) (μ : List Addr) (c : Stt) (σ : St) (H : Hp) : Prop where
  ex : Same F H
  exz : Same Z H
  fz : ∀ a o, Z a = some o → F a = none
  len : σ.length = c.r.length
  slot : ∀ (i : Nat) (x : D), c.r[i]? = some (.d x) → ∃ v, σ[i]? = some (some v) ∧ Rep K F μ v x
  own : ∀ (i : Nat) (m : Cell), c.r[i]? = some (.own m) → ∃ a, σ[i]? = some (some (.ref a)) ∧ CellAt K Z F μ H a m ∧ m.live
  dis : ∀ (i j : Nat) (a : Addr) (m m' : Cell), c.r[i]? = some (.own m) → c.r[j]? = some (.own m') → σ[i]? = some (some (.ref a)) → σ[j]? = some (some (.ref a)) → i = j
  lm : μ.length = c.S.length
  sto : ∀ (n : Nat) (a : Addr) (m : Cell), μ[n]? = some a → c.S[n]? = some m → CellAt K Z F μ H a m
  dst : ∀ (i n : Nat) (a : Addr) (m : Cell), c.r[i]? = some (.own m) → σ[i]? = some (some (.ref a)) → μ[n]? = some a → False
  ndm : ∀ (n k : Nat) (a : Addr), μ[n]? = some a → μ[k]? = some a → n = k
  tab : LamX.Tabs TabEnv.T H
/-- an object that is neither a table nor a code object -/
def HO.noTab (o : HO) : Prop := (∀ ps, o ≠ .tbl ps) ∧ ∀ c q, o ≠ LamX.CodeO c q
theorem CellO.noTab {K : PySem.W.Frag} {F : Hp} {μ : List Addr} {o : HO} {m : Cell} (h : CellO K F μ o m) (hm : m.live) : HO.noTab o := by
  cases h with
  | lst r => exact ⟨fun ps z => (by cases z), fun c q z => (by unfold LamX.CodeO at z; cases z)⟩
  | dct k r => exact ⟨fun ps z => (by cases z), fun c q z => (by unfold LamX.CodeO at z; cases z)⟩
  | ins k r => exact ⟨fun ps z => (by cases z), fun c q z => (by unfold LamX.CodeO at z; cases z)⟩
  | lck k r => exact hm.elim
  | gone => exact hm.elim
theorem noTab_frz {ob : Obj} {u : HO} : HO.noTab (.frz ob u) := ⟨fun ps z => (by cases z), fun c q z => (by unfold LamX.CodeO at z; cases z)⟩
theorem noTab_lst {xs : List V} : HO.noTab (.lst xs) := ⟨fun ps z => (by cases z), fun c q z => (by unfold LamX.CodeO at z; cases z)⟩
theorem noTab_dK {xs : List (Key × V)} : HO.noTab (.dK xs) := ⟨fun ps z => (by cases z), fun c q z => (by unfold LamX.CodeO at z; cases z)⟩
theorem tabs_put {T : List (Addr × Str)} {H : Hp} {p : Addr} {o0 o : HO} (t : LamX.Tabs T H) (hp : H p = some o0) (n : HO.noTab o0) : LamX.Tabs T (upd H p o) := fun x hx => by
  obtain ⟨ps, h1, h2, h3⟩ := t x hx
  refine ⟨ps, ?_, h2, fun pos cv hc => ?_⟩
  · rw [upd_ne (fun z => n.1 ps (Option.some.inj (hp.symm.trans (by rw [← z]; exact h1))))]
    exact h1
  · obtain ⟨c, e1, e2⟩ := h3 pos cv hc
    refine ⟨c, e1, ?_⟩
    rw [upd_ne (fun z => n.2 c x.2 (Option.some.inj (hp.symm.trans (by rw [← z]; exact e2))))]
    exact e2

section
variable {K : PySem.W.Frag} {Z F F' : Hp} {μ μ' : List Addr} {c : Stt} {σ : St} {H H' : Hp} {p : Addr} {o : HO}
omit [TabEnv] in
theorem CellAt.grow {a : Addr} {m : Cell} (h : CellAt K Z F μ H a m) (le : Le F μ F' μ') (hf : m.live → F' a = none) (eh : Same H H') : CellAt K Z F' μ' H' a m :=
  ⟨h.z, hf, let ⟨o, e, q⟩ := h.o; ⟨o, eh _ _ e, q.mono le⟩, fun g => let ⟨o, e, _⟩ := h.o; (le.ex _ _ ((h.l g).trans e)).trans (eh _ _ e).symm⟩
/-- the heap has grown -/
theorem Rel.up (h : Rel K Z F μ c σ H) (e : Same H H') : Rel K Z F μ c σ H' :=
  { ex := h.ex.trans e, exz := h.exz.trans e, fz := h.fz, len := h.len, slot := h.slot,
    own := fun i m q => (let ⟨a, e1, e2, e3⟩ := h.own i m q; ⟨a, e1, e2.grow (Le.refl F μ) e2.f e, e3⟩), dis := h.dis, lm := h.lm,
    sto := fun n a m e1 e2 => (h.sto n a m e1 e2).grow (Le.refl F μ) (h.sto n a m e1 e2).f e, dst := h.dst, ndm := h.ndm, tab := h.tab.ext e }
theorem Rel.freeF (h : Rel K Z F μ c σ H) (n : H p = none) : F p = none := h.ex.free n
theorem Rel.freeZ (h : Rel K Z F μ c σ H) (n : H p = none) : Z p = none := h.exz.free n
/-- an object that nobody owns stands for good from now on -/
theorem Rel.fix (h : Rel K Z F μ c σ H) (hp : H p = some o) (fp : F p = none) (zp : Z p = none) (no : ∀ (i : Nat) (m : Cell), c.r[i]? = some (.own m) → σ[i]? ≠ some (some (.ref p))) (nm : ∀ (n : Nat) (m : Cell), μ[n]? = some p → c.S[n]? = some m → m = .gone) :
    Rel K Z (upd F p o) μ c σ H ∧ Le F μ (upd F p o) μ := by
  have le : Le F μ (upd F p o) μ := ⟨same_new fp, fun _ _ h => h⟩
  refine ⟨{ ex := fun b x e => ?_, exz := h.exz, fz := fun a x e => ?_, len := h.len, slot := fun i x e => (let ⟨v, e1, e2⟩ := h.slot i x e; ⟨v, e1, e2.mono le⟩), own := fun i m q => ?_, dis := h.dis, lm := h.lm, sto := fun n a m e1 e2 => ?_, dst := h.dst, ndm := h.ndm, tab := h.tab }, le⟩
  · by_cases hb : b = p
    · subst hb; rw [upd_same] at e; cases e; exact hp
    · rw [upd_ne hb] at e; exact h.ex b x e
  · have : a ≠ p := fun z => by subst z; rw [zp] at e; cases e
    rw [upd_ne this]; exact h.fz a x e
  · obtain ⟨a, e1, e2, e3⟩ := h.own i m q
    have : a ≠ p := fun z => by subst z; exact no i m q e1
    exact ⟨a, e1, e2.grow le (fun g => by rw [upd_ne this]; exact e2.f g) (Same.refl H), e3⟩
  · have e3 := h.sto n a m e1 e2
    refine e3.grow le (fun g => ?_) (Same.refl H)
    have : a ≠ p := fun z => by
      subst z
      rw [nm n m e1 e2] at g
      exact g
    rw [upd_ne this]; exact e3.f g
/-- a new object that stands for good -/
theorem Rel.new (h : Rel K Z F μ c σ H) (n : H p = none) : Rel K Z (upd F p o) μ c σ (upd H p o) ∧ Le F μ (upd F p o) μ := by
  refine (h.up (same_new n)).fix upd_same (h.freeF n) (h.freeZ n) (fun i m q e => ?_) (fun k m e1 e2 => ?_)
  · obtain ⟨a, e1, ⟨_, _, ⟨u, e2, _⟩, _⟩, _⟩ := h.own i m q
    rw [e1] at e; cases e; rw [n] at e2; cases e2
  · obtain ⟨_, _, ⟨u, e3, _⟩, _⟩ := h.sto k p m e1 e2
    rw [n] at e3; cases e3
/-- what is fresh is nobody's -/
theorem Rel.nobody (h : Rel K Z F μ c σ H) (n : H p = none) : (∀ (i : Nat) (m : Cell), c.r[i]? = some (.own m) → σ[i]? ≠ some (some (.ref p))) ∧ (∀ (k : Nat), μ[k]? ≠ some p) := by
  refine ⟨fun i m q e => ?_, fun k e1 => ?_⟩
  · obtain ⟨a, e1, ⟨_, _, ⟨u, e2, _⟩, _⟩, _⟩ := h.own i m q
    rw [e1] at e; cases e; rw [n] at e2; cases e2
  · have hk : k < c.S.length := by rw [← h.lm]; exact (List.getElem?_eq_some_iff.mp e1).1
    obtain ⟨_, _, ⟨u, e3, _⟩, _⟩ := h.sto k p _ e1 (List.getElem?_eq_getElem hk)
    rw [n] at e3; cases e3
/-- a slot takes a value -/
theorem Rel.setD (h : Rel K Z F μ c σ H) {i : Nat} {v : V} {x : D} (r : Rep K F μ v x) : Rel K Z F μ ⟨c.r.set i (.d x), c.S⟩ (σ.set i (some v)) H := by
  have key : ∀ (j : Nat) (m : Cell), (c.r.set i (.d x))[j]? = some (.own m) → j ≠ i ∧ c.r[j]? = some (.own m) := fun j m q => by
    by_cases hj : j = i
    · subst hj
      rw [List.getElem?_set] at q
      simp at q
    · rw [List.getElem?_set_ne (Ne.symm hj)] at q; exact ⟨hj, q⟩
  refine { ex := h.ex, exz := h.exz, fz := h.fz, len := by simpa using h.len, slot := fun j y q => ?_, own := fun j m q => ?_, dis := fun j k a m m' q1 q2 e1 e2 => ?_, lm := h.lm, sto := h.sto, dst := fun j n a m q e1 e2 => ?_, ndm := h.ndm, tab := h.tab }
  · by_cases hj : j = i
    · subst hj
      have hl : j < c.r.length := by
        have := (List.getElem?_eq_some_iff.mp q).1
        simpa using this
      rw [List.getElem?_set_self hl] at q
      cases q
      exact ⟨v, by rw [List.getElem?_set_self (by rw [h.len]; exact hl)], r⟩
    · rw [List.getElem?_set_ne (Ne.symm hj)] at q
      obtain ⟨w, e1, e2⟩ := h.slot j y q
      exact ⟨w, by rw [List.getElem?_set_ne (Ne.symm hj)]; exact e1, e2⟩
  · obtain ⟨hj, q⟩ := key j m q
    rw [List.getElem?_set_ne (Ne.symm hj)]
    exact h.own j m q
  · obtain ⟨hj, q1⟩ := key j m q1
    obtain ⟨hk, q2⟩ := key k m' q2
    rw [List.getElem?_set_ne (Ne.symm hj)] at e1
    rw [List.getElem?_set_ne (Ne.symm hk)] at e2
    exact h.dis j k a m m' q1 q2 e1 e2
  · obtain ⟨hj, q⟩ := key j m q
    rw [List.getElem?_set_ne (Ne.symm hj)] at e1
    exact h.dst j n a m q e1 e2
/-- a slot takes an object of its own -/
theorem Rel.setOwn (h : Rel K Z F μ c σ H) {i : Nat} {m : Cell} (hp : H p = some o) (fp : F p = none) (zp : Z p = none) (no : ∀ (j : Nat) (m : Cell), c.r[j]? = some (.own m) → σ[j]? ≠ some (some (.ref p))) (nm : ∀ (n : Nat), μ[n]? ≠ some p)
    (r : CellO K F μ o m) (hm : m.live) : Rel K Z F μ ⟨c.r.set i (.own m), c.S⟩ (σ.set i (some (.ref p))) H := by
  have key : ∀ (j : Nat) (m' : Cell), (c.r.set i (.own m))[j]? = some (.own m') → (j = i ∧ m' = m ∧ j < c.r.length) ∨ (j ≠ i ∧ c.r[j]? = some (.own m')) := fun j m' q => by
    by_cases hj : j = i
    · subst hj
      have hl : j < c.r.length := by
        have := (List.getElem?_eq_some_iff.mp q).1
        simpa using this
      rw [List.getElem?_set_self hl] at q
      cases q
      exact .inl ⟨rfl, rfl, hl⟩
    · rw [List.getElem?_set_ne (Ne.symm hj)] at q; exact .inr ⟨hj, q⟩
  refine { ex := h.ex, exz := h.exz, fz := h.fz, len := by simpa using h.len, slot := fun j y q => ?_, own := fun j m' q => ?_, dis := fun j k a m1 m2 q1 q2 e1 e2 => ?_, lm := h.lm, sto := h.sto, dst := fun j n a m' q e1 e2 => ?_, ndm := h.ndm, tab := h.tab }
  · by_cases hj : j = i
    · subst hj
      rw [List.getElem?_set] at q
      simp at q
    · rw [List.getElem?_set_ne (Ne.symm hj)] at q
      obtain ⟨w, e1, e2⟩ := h.slot j y q
      exact ⟨w, by rw [List.getElem?_set_ne (Ne.symm hj)]; exact e1, e2⟩
  · rcases key j m' q with ⟨rfl, rfl, hl⟩ | ⟨hj, q⟩
    · exact ⟨p, by rw [List.getElem?_set_self (by rw [h.len]; exact hl)], ⟨zp, fun _ => fp, ⟨o, hp, r⟩, fun g => (lkE hm g).elim⟩, hm⟩
    · rw [List.getElem?_set_ne (Ne.symm hj)]
      exact h.own j m' q
  · rcases key j m1 q1 with ⟨rfl, _, hl⟩ | ⟨hj, q3⟩
    · rw [List.getElem?_set_self (by rw [h.len]; exact hl)] at e1
      cases e1
      rcases key k m2 q2 with ⟨rfl, _, _⟩ | ⟨hk, q4⟩
      · rfl
      · rw [List.getElem?_set_ne (Ne.symm hk)] at e2
        exact absurd e2 (no k m2 q4)
    · rw [List.getElem?_set_ne (Ne.symm hj)] at e1
      rcases key k m2 q2 with ⟨rfl, _, hl⟩ | ⟨hk, q4⟩
      · rw [List.getElem?_set_self (by rw [h.len]; exact hl)] at e2
        cases e2
        exact absurd e1 (no j m1 q3)
      · rw [List.getElem?_set_ne (Ne.symm hk)] at e2
        exact h.dis j k a m1 m2 q3 q4 e1 e2
  · rcases key j m' q with ⟨rfl, _, hl⟩ | ⟨hj, q⟩
    · rw [List.getElem?_set_self (by rw [h.len]; exact hl)] at e1
      cases e1
      exact nm n e2
    · rw [List.getElem?_set_ne (Ne.symm hj)] at e1
      exact h.dst j n a m' q e1 e2
/-- the object of a slot is written -/
theorem Rel.write (h : Rel K Z F μ c σ H) {i : Nat} {m m' : Cell} (q : c.r[i]? = some (.own m)) (e : σ[i]? = some (some (.ref p))) (r : CellO K F μ o m') (hm : m'.live) :
    Rel K Z F μ ⟨c.r.set i (.own m'), c.S⟩ σ (upd H p o) := by
  obtain ⟨p', e', cp, hg⟩ := h.own i m q
  rw [e] at e'; cases e'
  have hl : i < c.r.length := (List.getElem?_eq_some_iff.mp q).1
  have key : ∀ (j : Nat) (m1 : Cell), (c.r.set i (.own m'))[j]? = some (.own m1) → (j = i ∧ m1 = m') ∨ (j ≠ i ∧ c.r[j]? = some (.own m1)) := fun j m1 q1 => by
    by_cases hj : j = i
    · subst hj
      rw [List.getElem?_set_self hl] at q1
      cases q1
      exact .inl ⟨rfl, rfl⟩
    · rw [List.getElem?_set_ne (Ne.symm hj)] at q1; exact .inr ⟨hj, q1⟩
  refine { ex := fun b x eb => ?_, exz := fun b x eb => ?_, fz := h.fz, len := by simpa using h.len, slot := fun j y q1 => ?_, own := fun j m1 q1 => ?_, dis := fun j k a m1 m2 q1 q2 e1 e2 => ?_, lm := h.lm, sto := fun n a m1 e1 e2 => ?_, dst := fun j n a m1 q1 e1 e2 => ?_, ndm := h.ndm, tab := (let ⟨_, ho, hc⟩ := cp.o; tabs_put h.tab ho (hc.noTab hg)) }
  · have : b ≠ p := fun z => by subst z; rw [cp.f hg] at eb; cases eb
    rw [upd_ne this]; exact h.ex b x eb
  · have : b ≠ p := fun z => by subst z; rw [cp.z] at eb; cases eb
    rw [upd_ne this]; exact h.exz b x eb
  · by_cases hj : j = i
    · subst hj
      rw [List.getElem?_set_self hl] at q1
      cases q1
    · rw [List.getElem?_set_ne (Ne.symm hj)] at q1
      exact h.slot j y q1
  · rcases key j m1 q1 with ⟨rfl, rfl⟩ | ⟨hj, q1⟩
    · exact ⟨p, e, ⟨cp.z, fun _ => cp.f hg, ⟨o, upd_same, r⟩, fun g => (lkE hm g).elim⟩, hm⟩
    · obtain ⟨a, e1, c1, g1⟩ := h.own j m1 q1
      have : a ≠ p := fun z => by subst z; exact hj (h.dis j i a m1 m q1 q e1 e)
      exact ⟨a, e1, ⟨c1.z, c1.f, let ⟨u, e2, e3⟩ := c1.o; ⟨u, by rw [upd_ne this]; exact e2, e3⟩, fun g => by rw [upd_ne this]; exact c1.l g⟩, g1⟩
  · rcases key j m1 q1 with ⟨rfl, _⟩ | ⟨hj, q3⟩ <;> rcases key k m2 q2 with ⟨rfl, _⟩ | ⟨hk, q4⟩
    · rfl
    · exact h.dis _ _ a m m2 q q4 e1 e2
    · exact h.dis _ _ a m1 m q3 q e1 e2
    · exact h.dis j k a m1 m2 q3 q4 e1 e2
  · have c1 := h.sto n a m1 e1 e2
    have : a ≠ p := fun z => by subst z; exact h.dst i n a m q e e1
    exact ⟨c1.z, c1.f, let ⟨u, e2, e3⟩ := c1.o; ⟨u, by rw [upd_ne this]; exact e2, e3⟩, fun g => by rw [upd_ne this]; exact c1.l g⟩
  · rcases key j m1 q1 with ⟨rfl, _⟩ | ⟨hj, q1⟩
    · exact h.dst _ n a m q e1 e2
    · exact h.dst j n a m1 q1 e1 e2
/-- the object of a slot stands for good -/
theorem Rel.freeze (h : Rel K Z F μ c σ H) {i : Nat} {m : Cell} {x : D} (q : c.r[i]? = some (.own m)) (e : σ[i]? = some (some (.ref p))) (hp : H p = some o)
    (r : Rep K (upd F p o) μ (.ref p) x) : Rel K Z (upd F p o) μ ⟨c.r.set i (.d x), c.S⟩ σ H ∧ Le F μ (upd F p o) μ := by
  obtain ⟨p', e', cp, hg⟩ := h.own i m q
  rw [e] at e'; cases e'
  have fp : F p = none := cp.f hg
  have le : Le F μ (upd F p o) μ := ⟨same_new fp, fun _ _ h => h⟩
  have hl : i < c.r.length := (List.getElem?_eq_some_iff.mp q).1
  have key : ∀ (j : Nat) (m1 : Cell), (c.r.set i (.d x))[j]? = some (.own m1) → (j ≠ i ∧ c.r[j]? = some (.own m1)) := fun j m1 q1 => by
    by_cases hj : j = i
    · subst hj
      rw [List.getElem?_set_self hl] at q1
      cases q1
    · rw [List.getElem?_set_ne (Ne.symm hj)] at q1; exact ⟨hj, q1⟩
  refine ⟨{ ex := fun b x1 eb => ?_, exz := h.exz, fz := fun a x1 ea => ?_, len := by simpa using h.len, slot := fun j y q1 => ?_, own := fun j m1 q1 => ?_, dis := fun j k a m1 m2 q1 q2 e1 e2 => ?_, lm := h.lm, sto := fun n a m1 e1 e2 => ?_, dst := fun j n a m1 q1 e1 e2 => ?_, ndm := h.ndm, tab := h.tab }, le⟩
  · by_cases hb : b = p
    · subst hb; rw [upd_same] at eb; cases eb; exact hp
    · rw [upd_ne hb] at eb; exact h.ex b x1 eb
  · have : a ≠ p := fun z => by subst z; rw [cp.z] at ea; cases ea
    rw [upd_ne this]; exact h.fz a x1 ea
  · by_cases hj : j = i
    · subst hj
      rw [List.getElem?_set_self hl] at q1
      cases q1
      exact ⟨_, e, r⟩
    · rw [List.getElem?_set_ne (Ne.symm hj)] at q1
      obtain ⟨w, e1, e2⟩ := h.slot j y q1
      exact ⟨w, e1, e2.mono le⟩
  · obtain ⟨hj, q1⟩ := key j m1 q1
    obtain ⟨a, e1, c1, g1⟩ := h.own j m1 q1
    have : a ≠ p := fun z => by subst z; exact hj (h.dis j i a m1 m q1 q e1 e)
    exact ⟨a, e1, c1.grow le (fun g => by rw [upd_ne this]; exact c1.f g) (Same.refl H), g1⟩
  · obtain ⟨hj, q1⟩ := key j m1 q1
    obtain ⟨hk, q2⟩ := key k m2 q2
    exact h.dis j k a m1 m2 q1 q2 e1 e2
  · have c1 := h.sto n a m1 e1 e2
    have : a ≠ p := fun z => by subst z; exact h.dst i n a m q e e1
    exact c1.grow le (fun g => by rw [upd_ne this]; exact c1.f g) (Same.refl H)
  · obtain ⟨hj, q1⟩ := key j m1 q1
    exact h.dst j n a m1 q1 e1 e2
/-- a new object of the store -/
theorem Rel.push (h : Rel K Z F μ c σ H) {m : Cell} (hp : H p = some o) (fp : F p = none) (zp : Z p = none) (no : ∀ (j : Nat) (m : Cell), c.r[j]? = some (.own m) → σ[j]? ≠ some (some (.ref p))) (nm : ∀ (n : Nat), μ[n]? ≠ some p)
    (r : CellO K F (μ ++ [p]) o m) (hm : m.live := by trivial) : Rel K Z F (μ ++ [p]) ⟨c.r, c.S ++ [m]⟩ σ H ∧ Le F μ F (μ ++ [p]) := by
  have get : ∀ (n : Nat) (a : Addr), (μ ++ [p])[n]? = some a → (n < μ.length ∧ μ[n]? = some a) ∨ (n = μ.length ∧ a = p) := fun n a e => by
    rw [List.getElem?_append] at e
    split at e
    · exact .inl ⟨by assumption, e⟩
    · have hn : n - μ.length = 0 := by
        have := (List.getElem?_eq_some_iff.mp e).1
        simp at this; omega
      rw [hn] at e
      simp at e
      exact .inr ⟨by omega, e.symm⟩
  have le : Le F μ F (μ ++ [p]) := ⟨Same.refl F, fun n a e => by
    rw [List.getElem?_append_left (List.getElem?_eq_some_iff.mp e).1]; exact e⟩
  refine ⟨{ ex := h.ex, exz := h.exz, fz := h.fz, len := h.len, slot := fun i x e => (let ⟨v, e1, e2⟩ := h.slot i x e; ⟨v, e1, e2.mono le⟩), own := fun i m q => (let ⟨a, e1, e2, e3⟩ := h.own i m q; ⟨a, e1, e2.grow le e2.f (Same.refl H), e3⟩), dis := h.dis, lm := by simp [h.lm], sto := fun n a m1 e1 e2 => ?_, dst := fun i n a m1 q e1 e2 => ?_, ndm := fun n k a e1 e2 => ?_, tab := h.tab }, le⟩
  · rcases get n a e1 with ⟨hl, e1⟩ | ⟨hn, ha⟩
    · have e2' : c.S[n]? = some m1 := by
        rw [List.getElem?_append_left (by rw [← h.lm]; exact hl)] at e2; exact e2
      have c1 := h.sto n a m1 e1 e2'
      exact c1.grow le c1.f (Same.refl H)
    · subst hn ha
      have e2' : m = m1 := by
        have e2 : (c.S ++ [m])[μ.length]? = some m1 := e2
        rw [h.lm, List.getElem?_append_right (Nat.le_refl _)] at e2
        simpa using e2
      subst e2'
      exact ⟨zp, fun _ => fp, ⟨o, hp, r⟩, fun g => (lkE hm g).elim⟩
  · rcases get n a e2 with ⟨_, e2⟩ | ⟨_, ha⟩
    · exact h.dst i n a m1 q e1 e2
    · subst ha
      exact no i m1 q e1
  · rcases get n a e1 with ⟨_, e3⟩ | ⟨hn, ha⟩ <;> rcases get k a e2 with ⟨_, e4⟩ | ⟨hk, hb⟩
    · exact h.ndm n k a e3 e4
    · subst hb; exact absurd e3 (nm n)
    · subst ha; exact absurd e4 (nm k)
    · omega
/-- an object of the store is written -/
theorem Rel.put (h : Rel K Z F μ c σ H) {n : Nat} {m m' : Cell} (q : c.S[n]? = some m) (hg : m.live) (e : μ[n]? = some p) (r : CellO K F μ o m') (hm : m'.live := by trivial) :
    Rel K Z F μ ⟨c.r, c.S.set n m'⟩ σ (upd H p o) := by
  have cp := h.sto n p m e q
  have hl : n < c.S.length := (List.getElem?_eq_some_iff.mp q).1
  refine { ex := fun b x eb => ?_, exz := fun b x eb => ?_, fz := h.fz, len := h.len, slot := h.slot, own := fun j m1 q1 => ?_, dis := h.dis, lm := by simpa using h.lm, sto := fun k a m1 e1 e2 => ?_, dst := h.dst, ndm := h.ndm, tab := (let ⟨_, ho, hc⟩ := cp.o; tabs_put h.tab ho (hc.noTab hg)) }
  · have : b ≠ p := fun z => by subst z; rw [cp.f hg] at eb; cases eb
    rw [upd_ne this]; exact h.ex b x eb
  · have : b ≠ p := fun z => by subst z; rw [cp.z] at eb; cases eb
    rw [upd_ne this]; exact h.exz b x eb
  · obtain ⟨a, e1, c1, g1⟩ := h.own j m1 q1
    have : a ≠ p := fun z => by subst z; exact h.dst j n a m1 q1 e1 e
    exact ⟨a, e1, ⟨c1.z, c1.f, let ⟨u, e2, e3⟩ := c1.o; ⟨u, by rw [upd_ne this]; exact e2, e3⟩, fun g => by rw [upd_ne this]; exact c1.l g⟩, g1⟩
  · by_cases hk : k = n
    · subst hk
      rw [e] at e1; cases e1
      have e2 : (c.S.set k m')[k]? = some m1 := e2
      rw [List.getElem?_set_self hl] at e2
      cases e2
      exact ⟨cp.z, fun _ => cp.f hg, ⟨o, upd_same, r⟩, fun g => (lkE hm g).elim⟩
    · have e2 : (c.S.set n m')[k]? = some m1 := e2
      rw [List.getElem?_set_ne (Ne.symm hk)] at e2
      have c1 := h.sto k a m1 e1 e2
      have : a ≠ p := fun z => by subst z; exact hk (h.ndm k n a e1 e)
      exact ⟨c1.z, c1.f, let ⟨u, e2, e3⟩ := c1.o; ⟨u, by rw [upd_ne this]; exact e2, e3⟩, fun g => by rw [upd_ne this]; exact c1.l g⟩
end
end My

set_option Elab.async false
set_option linter.all false
set_option maxRecDepth 100000
set_option maxHeartbeats 4000000
/-! F2: what a piece of a text evaluates to, as a plain function of the image. -/
namespace My
open PySem L2
variable [TabEnv]

omit [TabEnv] in
def M.bind {α β : Type} (m : M α) (f : α → M β) : M β := fun c => match m c with
  | .ok a c' => f a c'
  | .ex e c' => .ex e c'
  | .no => .no
omit [TabEnv] in
def M.pure {α : Type} (a : α) : M α := fun c => .ok a c
omit [TabEnv] in
def M.no {α : Type} : M α := fun _ => .no

omit [TabEnv] in
/-- an operand: data, or the object of a slot -/
inductive O where
  | d (x : D)
  | sl (i : Nat)
omit [TabEnv] in
inductive RepO (K : PySem.W.Frag) (F : Hp) (μ : List Addr) (σ : St) : V → O → Prop
  | d {v : V} {x : D} : Rep K F μ v x → RepO K F μ σ v (.d x)
  | sl {v : V} {i : Nat} : σ[i]? = some (some v) → RepO K F μ σ v (.sl i)
omit [TabEnv] in
theorem RepO.mono {K : PySem.W.Frag} {F F' : Hp} {μ μ' : List Addr} {σ : St} {v : V} {o : O} (le : Le F μ F' μ') (h : RepO K F μ σ v o) : RepO K F' μ' σ v o := by
  cases h with
  | d h => exact .d (h.mono le)
  | sl h => exact .sl h
omit [TabEnv] in
inductive RepX (K : PySem.W.Frag) (F : Hp) (μ : List Addr) : Value → Option Addr → Exn → Prop
  | none {cls : Value} : RepX K F μ cls none ⟨cls, none⟩
  | some {cls : Value} {d : Addr} {f : Str} {v : V} {x : D} : F d = some (.xd [(f, v)]) → Rep K F μ v x → RepX K F μ cls (some d) ⟨cls, some (f, x)⟩

/-- what is wanted behind an expression -/
def Post (K : PySem.W.Frag) (Z F : Hp) (μ : List Addr) (σ : St) (W : WX) {α : Type} (r : R α) (P : α → Stt → Hp → List Addr → Hp → Prop) : Prop := match r with
  | .ok a c => ∀ F' μ' H', Le F μ F' μ' → Rel K Z F' μ' c σ H' → P a c F' μ' H'
  | .ex e c => ∀ cls od F' μ' H', Le F μ F' μ' → Rel K Z F' μ' c σ H' → RepX K F' μ' cls od e → W cls od σ H'
  | .no => False
section
variable {K : PySem.W.Frag} {Z F F' : Hp} {μ μ' : List Addr} {σ : St} {W : WX} {α β : Type}
theorem Post.le {r : R α} {P : α → Stt → Hp → List Addr → Hp → Prop} (le : Le F μ F' μ') (h : Post K Z F μ σ W r P) : Post K Z F' μ' σ W r P := by
  cases r with
  | ok a c => exact fun F2 μ2 H2 l r => h F2 μ2 H2 (le.trans l) r
  | ex e c => exact fun cls od F2 μ2 H2 l r x => h cls od F2 μ2 H2 (le.trans l) r x
  | no => exact h
theorem Post.imp {r : R α} {P P' : α → Stt → Hp → List Addr → Hp → Prop} (h : Post K Z F μ σ W r P) (hp : ∀ a c F' μ' H', Le F μ F' μ' → Rel K Z F' μ' c σ H' → P a c F' μ' H' → P' a c F' μ' H') : Post K Z F μ σ W r P' := by
  cases r with
  | ok a c => exact fun F2 μ2 H2 l r => hp a c F2 μ2 H2 l r (h F2 μ2 H2 l r)
  | ex e c => exact h
  | no => exact h
/-- behind the first of two -/
theorem Post.bind {m : M α} {f : α → M β} {c : Stt} {P : β → Stt → Hp → List Addr → Hp → Prop} (h : Post K Z F μ σ W (M.bind m f c) P) :
    Post K Z F μ σ W (m c) (fun a c' F' μ' H' => Post K Z F' μ' σ W (f a c') P) := by
  unfold M.bind at h
  cases e : m c with
  | ok a c' => rw [e] at h; exact fun F2 μ2 H2 l r => Post.le l h
  | ex x c' => rw [e] at h; exact h
  | no => rw [e] at h; exact h
end

def EvE (K : PySem.W.Frag) (W : WX) (te : TE) (de : M O) : Prop := ∀ (Z F : Hp) (μ : List Addr) (c : Stt) (σ : St) (H : Hp) (Q : VK), Rel K Z F μ c σ H →
  Post K Z F μ σ W (de c) (fun o _ F' μ' H' => ∀ v, RepO K F' μ' σ v o → Q v H') → te σ H Q
def EvD (K : PySem.W.Frag) (W : WX) (te : TE) (de : M D) : Prop := ∀ (Z F : Hp) (μ : List Addr) (c : Stt) (σ : St) (H : Hp) (Q : VK), Rel K Z F μ c σ H →
  Post K Z F μ σ W (de c) (fun x _ F' μ' H' => ∀ v, Rep K F' μ' v x → Q v H') → te σ H Q
omit [TabEnv] in
/-- nobody's object -/
structure Nob (Z F : Hp) (μ : List Addr) (c : Stt) (σ : St) (p : Addr) : Prop where
  f : F p = none
  z : Z p = none
  no : ∀ (i : Nat) (m : Cell), c.r[i]? = some (.own m) → σ[i]? ≠ some (some (.ref p))
  nm : ∀ (k : Nat), μ[k]? ≠ some p
/-- a new list that is nobody's -/
def EvN (K : PySem.W.Frag) (W : WX) (te : TE) (dn : M (List D)) : Prop := ∀ (Z F : Hp) (μ : List Addr) (c : Stt) (σ : St) (H : Hp) (Q : VK), Rel K Z F μ c σ H →
  Post K Z F μ σ W (dn c) (fun ds c' F' μ' H' => ∀ p vs, H' p = some (.lst vs) → Nob Z F' μ' c' σ p → Reps K F' μ' vs ds → Q (.ref p) H') → te σ H Q
def EvT (K : PySem.W.Frag) (W : WX) (tt : TT) (dt : M Bool) : Prop := ∀ (Z F : Hp) (μ : List Addr) (c : Stt) (σ : St) (H : Hp) (Q : Bool → Hp → Prop), Rel K Z F μ c σ H →
  Post K Z F μ σ W (dt c) (fun b _ _ _ H' => Q b H') → tt σ H Q
def EvA (K : PySem.W.Frag) (W : WX) (ta : TA) (da : M (List D)) : Prop := ∀ (Z F : Hp) (μ : List Addr) (c : Stt) (σ : St) (H : Hp) (Q : List V → Hp → Prop), Rel K Z F μ c σ H →
  Post K Z F μ σ W (da c) (fun ds _ F' μ' H' => ∀ vs, Reps K F' μ' vs ds → Q vs H') → ta σ H Q

omit [TabEnv] in
/-- a list's, a tuple's items -/
def seqD (c : Stt) : O → Option (List D)
  | .d (.lst ds) => some ds
  | .d (.scr ds) => some ds
  | .d (.tup ds) => some ds
  | .d (.loc n) => match c.S[n]? with
    | some (.lst ds) => some ds
    | _ => none
  | .sl i => match c.r[i]? with
    | some (.own (.lst ds)) => some ds
    | some (.d (.lst ds)) => some ds
    | _ => none
  | _ => none
section
variable {K : PySem.W.Frag} {Z F F' : Hp} {μ μ' : List Addr} {c : Stt} {σ : St} {H H' : Hp} {W : WX}
theorem Rel.nob {p : Addr} (h : Rel K Z F μ c σ H) (n : H p = none) : Nob Z F μ c σ p := ⟨h.freeF n, h.freeZ n, (h.nobody n).1, (h.nobody n).2⟩
theorem seq_at {v : V} {o : O} {ds : List D} (h : Rel K Z F μ c σ H) (r : RepO K F μ σ v o) (e : seqD c o = some ds) : ∃ a vs, v = .ref a ∧ (SqL K H a vs ∨ SqT K H a vs) ∧ Reps K F μ vs ds := by
  unfold seqD at e
  cases r with
  | d r =>
    cases r with
    | v x => cases e
    | tup hs r => cases e; exact ⟨_, _, rfl, .inr (Same.seqT h.ex hs), r⟩
    | lst hs r => cases e; exact ⟨_, _, rfl, .inl (.of (h.ex _ _ hs)), r⟩
    | scr hs r => cases e; exact ⟨_, _, rfl, .inl (h.ex.seq hs), r⟩
    | dct _ _ _ => cases e
    | ins _ _ _ => cases e
    | exn0 => cases e
    | exn1 _ _ => cases e
    | @loc n a hn =>
      dsimp only at e
      cases q : c.S[n]? with
      | none => rw [q] at e; cases e
      | some m =>
        rw [q] at e
        cases m with
        | lst es =>
          cases e
          obtain ⟨_, _, ⟨u, e1, e2⟩, _⟩ := h.sto _ _ _ hn q
          cases e2 with
          | lst r => exact ⟨_, _, rfl, .inl (.of e1), r⟩
        | dct _ => cases e
        | ins _ _ => cases e
        | lck _ => cases e
        | gone => cases e
  | @sl i hs =>
    dsimp only at e
    cases q : c.r[i]? with
    | none => rw [q] at e; cases e
    | some x =>
      rw [q] at e
      cases x with
      | no => cases e
      | d x =>
        cases x with
        | lst es =>
          cases e
          obtain ⟨v', e1, e2⟩ := h.slot i _ q
          rw [hs] at e1; cases e1
          cases e2 with
          | lst hh r => exact ⟨_, _, rfl, .inl (.of (h.ex _ _ hh)), r⟩
        | _ => cases e
      | own m =>
        cases m with
        | lst es =>
          cases e
          obtain ⟨a, e1, ⟨_, _, ⟨u, e2, e3⟩, _⟩, _⟩ := h.own i _ q
          rw [hs] at e1; cases e1
          cases e3 with
          | lst r => exact ⟨_, _, rfl, .inl (.of e2), r⟩
        | _ => cases e
omit [TabEnv] in
/-- a list that is tracked as a list -/
def lstD (c : Stt) : O → Option (List D)
  | .d (.lst ds) => some ds
  | .d (.loc n) => match c.S[n]? with
    | some (.lst ds) => some ds
    | _ => none
  | .sl i => match c.r[i]? with
    | some (.own (.lst ds)) => some ds
    | some (.d (.lst ds)) => some ds
    | _ => none
  | _ => none
theorem lst_at {v : V} {o : O} {ds : List D} (h : Rel K Z F μ c σ H) (r : RepO K F μ σ v o) (e : lstD c o = some ds) : ∃ a vs, v = .ref a ∧ H a = some (.lst vs) ∧ Reps K F μ vs ds := by
  unfold lstD at e
  cases r with
  | d r =>
    cases r with
    | v x => cases e
    | tup hs r => cases e
    | lst hs r => cases e; exact ⟨_, _, rfl, h.ex _ _ hs, r⟩
    | scr hs r => cases e
    | dct _ _ _ => cases e
    | ins _ _ _ => cases e
    | exn0 => cases e
    | exn1 _ _ => cases e
    | @loc n a hn =>
      dsimp only at e
      cases q : c.S[n]? with
      | none => rw [q] at e; cases e
      | some m =>
        rw [q] at e
        cases m with
        | lst es =>
          cases e
          obtain ⟨_, _, ⟨u, e1, e2⟩, _⟩ := h.sto _ _ _ hn q
          cases e2 with
          | lst r => exact ⟨_, _, rfl, e1, r⟩
        | _ => cases e
  | @sl i hs =>
    dsimp only at e
    cases q : c.r[i]? with
    | none => rw [q] at e; cases e
    | some x =>
      rw [q] at e
      cases x with
      | no => cases e
      | d x =>
        cases x with
        | lst es =>
          cases e
          obtain ⟨v', e1, e2⟩ := h.slot i _ q
          rw [hs] at e1; cases e1
          cases e2 with
          | lst hh r => exact ⟨_, _, rfl, h.ex _ _ hh, r⟩
        | _ => cases e
      | own m =>
        cases m with
        | lst es =>
          cases e
          obtain ⟨a, e1, ⟨_, _, ⟨u, e2, e3⟩, _⟩, _⟩ := h.own i _ q
          rw [hs] at e1; cases e1
          cases e3 with
          | lst r => exact ⟨_, _, rfl, e2, r⟩
        | _ => cases e
omit [TabEnv] in
/-- a tuple's items -/
def tupD : O → Option (List D)
  | .d (.tup ds) => some ds
  | _ => none
theorem tup_at {v : V} {o : O} {ds : List D} (h : Rel K Z F μ c σ H) (r : RepO K F μ σ v o) (e : tupD o = some ds) : ∃ a vs, v = .ref a ∧ SqT K H a vs ∧ Reps K F μ vs ds := by
  unfold tupD at e
  cases r with
  | d r =>
    cases r with
    | tup hs r => cases e; exact ⟨_, _, rfl, Same.seqT h.ex hs, r⟩
    | _ => cases e
  | sl hs => cases e

/-! ### the object of a slot stands for good -/
omit [TabEnv] in
def frz : O → M D
  | .d x => fun c => .ok x c
  | .sl i => fun c => match c.r[i]? with
    | some (.own (.lst ds)) => .ok (.lst ds) ⟨c.r.set i (.d (.lst ds)), c.S⟩
    | some (.own (.dct ds)) => .ok (.dct ds) ⟨c.r.set i (.d (.dct ds)), c.S⟩
    | some (.own (.ins C ds)) => .ok (.ins C ds) ⟨c.r.set i (.d (.ins C ds)), c.S⟩
    | some (.d x) => .ok x c
    | _ => .no
theorem frz_ok {v : V} {o : O} {P : D → Stt → Hp → List Addr → Hp → Prop} (h : Rel K Z F μ c σ H) (r : RepO K F μ σ v o) (p : Post K Z F μ σ W (frz o c) P) :
    ∃ x c' F' , Le F μ F' μ ∧ Rel K Z F' μ c' σ H ∧ Rep K F' μ v x ∧ P x c' F' μ H := by
  cases r with
  | d r => exact ⟨_, _, F, Le.refl F μ, h, r, p F μ H (Le.refl F μ) h⟩
  | @sl i hs =>
    unfold frz at p
    dsimp only at p
    cases q : c.r[i]? with
    | none => rw [q] at p; exact p.elim
    | some x =>
      rw [q] at p
      cases x with
      | no => exact p.elim
      | d x =>
        obtain ⟨v', e1, e2⟩ := h.slot i _ q
        rw [hs] at e1; cases e1
        exact ⟨_, _, F, Le.refl F μ, h, e2, p F μ H (Le.refl F μ) h⟩
      | own m =>
        obtain ⟨a, e1, ⟨_, hf, ⟨u, e2, e3⟩, _⟩, hg⟩ := h.own i _ q
        rw [hs] at e1; cases e1
        have le : Le F μ (upd F a u) μ := ⟨same_new (hf hg), fun _ _ h => h⟩
        cases e3 with
        | lst r =>
          have r' : Rep K (upd F a (.lst _)) μ (.ref a) (.lst _) := .lst upd_same (r.mono le)
          obtain ⟨h1, l1⟩ := h.freeze q hs e2 r'
          exact ⟨_, _, _, l1, h1, r', p _ _ _ l1 h1⟩
        | dct k r =>
          have r' : Rep K (upd F a (.dK _)) μ (.ref a) (.dct _) := .dct upd_same k (r.mono le)
          obtain ⟨h1, l1⟩ := h.freeze q hs e2 r'
          exact ⟨_, _, _, l1, h1, r', p _ _ _ l1 h1⟩
        | ins k r =>
          have r' : Rep K (upd F a (.ins _ _ _)) μ (.ref a) (.ins _ _) := .ins upd_same k (r.mono le)
          obtain ⟨h1, l1⟩ := h.freeze q hs e2 r'
          exact ⟨_, _, _, l1, h1, r', p _ _ _ l1 h1⟩
        | lck k r => exact p.elim
        | gone => exact p.elim
omit [TabEnv] in
def dD (m : M O) : M D := M.bind m frz
theorem EvE.d {te : TE} {de : M O} (h : EvE K W te de) : EvD K W te (dD de) := fun Z F μ c σ H Q R p =>
  h Z F μ c σ H Q R (p.bind.imp fun o c' F' μ' H' le R' q v r => by
    obtain ⟨x, c2, F2, le2, R2, r2, k⟩ := frz_ok R' r q
    exact k v r2)
omit [TabEnv] in
def okD (m : M D) : M O := M.bind m fun x => M.pure (.d x)
theorem EvD.e {te : TE} {de : M D} (h : EvD K W te de) : EvE K W te (okD de) := fun Z F μ c σ H Q R p =>
  h Z F μ c σ H Q R (p.bind.imp fun x c' F' μ' H' le R' q v r => q F' μ' H' (Le.refl _ _) R' v (.d r))
omit [TabEnv] in
def okN (m : M (List D)) : M O := M.bind m fun ds => M.pure (.d (.lst ds))
theorem EvN.e {te : TE} {dn : M (List D)} (h : EvN K W te dn) : EvE K W te (okN dn) := fun Z F μ c σ H Q R p =>
  h Z F μ c σ H Q R (p.bind.imp fun ds c' F' μ' H' le R' q a vs hp n r => by
    obtain ⟨R2, l2⟩ := R'.fix hp n.f n.z n.no (fun k m e _ => absurd e (n.nm k))
    exact q _ _ _ l2 R2 (.ref a) (.d (.lst upd_same (r.mono l2))))
end
end My

set_option Elab.async false
set_option linter.all false
set_option maxRecDepth 100000
set_option maxHeartbeats 4000000
/-! F3: the rules for expressions. -/
namespace My
open PySem L2
variable [TabEnv]

structure ED (X : Cx) (W : WX) (e : Expr) (t : TE) (d : M O) : Prop where
  pe : PE X e t
  ev : EvE X.K W t d
structure DD (X : Cx) (W : WX) (e : Expr) (t : TE) (d : M D) : Prop where
  pe : PE X e t
  ev : EvD X.K W t d
structure EN (X : Cx) (W : WX) (e : Expr) (t : TE) (d : M (List D)) : Prop where
  pe : PE X e t
  ev : EvN X.K W t d
structure TD (X : Cx) (W : WX) (e : Expr) (t : TT) (d : M Bool) : Prop where
  pt : PT X e t
  ev : EvT X.K W t d
structure WD (X : Cx) (W : WX) (e : Expr) (t : TT) (d : M Bool) : Prop where
  pw : PW X e t
  ev : EvT X.K W t d
structure AD (X : Cx) (W : WX) (es : List Expr) (t : TA) (d : M (List D)) : Prop where
  pa : PA X es t
  ev : EvA X.K W t d

section
variable {X : Cx} {W : WX} {a b : Expr} {t ta tb : TE} {pos : Pos}
theorem ED.d {e : Expr} {d : M O} (h : ED X W e t d) : DD X W e t (dD d) := ⟨h.pe, h.ev.d⟩
theorem DD.e {e : Expr} {d : M D} (h : DD X W e t d) : ED X W e t (okD d) := ⟨h.pe, h.ev.e⟩
theorem EN.e {e : Expr} {d : M (List D)} (h : EN X W e t d) : ED X W e t (okN d) := ⟨h.pe, h.ev.e⟩

/-! ### names and constants -/
omit [TabEnv] in
def dVar (i : Nat) : M O := fun c => match c.r[i]? with
  | some (.d x) => .ok (.d x) c
  | some (.own _) => .ok (.sl i) c
  | _ => .no
theorem ed_var (i : Nat) {x : Str} (hN : X.N[i]? = some x := by rfl) (hv : Vis X.env.scope x := by first | exact Or.inl rfl | exact Or.inr (Or.inl rfl) | exact Or.inr (Or.inr rfl)) (hd : (x == ("__debug__" : Str)) = false := by decide)
    (hcd : (x == ("__classdict__" : Str)) = false := by decide) : ED X W (.Name x pos) (tVar i) (dVar i) := by
  refine ⟨pe_var hN hv hd hcd, fun Z F μ c σ H Q R p => ?_⟩
  unfold dVar at p
  cases q : c.r[i]? with
  | none => rw [q] at p; exact p.elim
  | some x =>
    rw [q] at p
    cases x with
    | no => exact p.elim
    | d x =>
      obtain ⟨v, e1, e2⟩ := R.slot i x q
      exact ⟨v, e1, p F μ H (Le.refl _ _) R v (.d e2)⟩
    | own m =>
      obtain ⟨v, e1, _⟩ := R.own i m q
      exact ⟨.ref v, e1, p F μ H (Le.refl _ _) R _ (.sl e1)⟩
omit [TabEnv] in
def dC (v : V) : M O := fun c => .ok (.d (.v v)) c
theorem ev_c {K : PySem.W.Frag} {v : V} : EvE K W (tC v) (dC v) := fun Z F μ c σ H Q R p => p F μ H (Le.refl _ _) R v (.d (.v v))
theorem ed_int {i : Int} {j : Nat} : ED X W (.Constant (.int i) j pos) (tC (.int i)) (dC (.int i)) := ⟨pe_int, ev_c⟩
theorem ed_bl {b : Bool} {j : Nat} : ED X W (.Constant (.bool b) j pos) (tC (.bl b)) (dC (.bl b)) := ⟨pe_bl, ev_c⟩
theorem ed_non {j : Nat} : ED X W (.Constant .none j pos) (tC .non) (dC .non) := ⟨pe_non, ev_c⟩
theorem ed_str {x : Str} {j : Nat} : ED X W (.Constant (.str x) j pos) (tC (.str x)) (dC (.str x)) := ⟨pe_str, ev_c⟩
omit [TabEnv] in
/-- a module's constant -/
def dK (x : D) : M O := fun c => .ok (.d x) c
theorem ed_glob {x : Str} {v : V} {u : Value} {d : D} (hg : Gl X x) (hm : X.mg x = some u) (r : RelV v u) (hd : ∀ F μ, Rep X.K F μ v d) (hdb : (x == ("__debug__" : Str)) = false := by decide) : ED X W (.Name x pos) (tC v) (dK d) :=
  ⟨pe_glob hg hm r hdb, fun Z F μ c σ H Q R p => p F μ H (Le.refl _ _) R v (.d (hd F μ))⟩
theorem ed_bltn {x : Str} {v : V} {u : Value} (hg : Gl X x) (hm : X.mg x = none) (hv : bootBuiltins x = some u) (r : RelV v u) (hn : x ≠ "__name__" := by decide) (hdb : (x == ("__debug__" : Str)) = false := by decide) : ED X W (.Name x pos) (tC v) (dC v) :=
  ⟨pe_bltn hg hm hv r hn hdb, ev_c⟩

/-! ### operations of two operands -/
omit [TabEnv] in
def dOp (g : O → O → M D) (da db : M O) : M D := M.bind da fun x => M.bind db fun y => g x y
def R2S (K : PySem.W.Frag) (W : WX) (r : R2) (g : O → O → M D) : Prop := ∀ (Z F : Hp) (μ : List Addr) (c : Stt) (σ : St) (H : Hp) (Q : VK) (x y : V) (a b : O), Rel K Z F μ c σ H → RepO K F μ σ x a → RepO K F μ σ y b →
  Post K Z F μ σ W (g a b c) (fun d _ F' μ' H' => ∀ v, Rep K F' μ' v d → Q v H') → r x y H Q
theorem ev_op {K : PySem.W.Frag} {r : R2} {g : O → O → M D} {da db : M O} (hr : R2S K W r g) (ha : EvE K W ta da) (hb : EvE K W tb db) : EvD K W (tOp r ta tb) (dOp g da db) := fun Z F μ c σ H Q R p =>
  ha Z F μ c σ H _ R (p.bind.imp fun o c1 F1 μ1 H1 l1 R1 p1 v1 r1 =>
    hb Z F1 μ1 c1 σ H1 _ R1 (p1.bind.imp fun o2 c2 F2 μ2 H2 l2 R2 p2 v2 r2 => hr Z F2 μ2 c2 σ H2 Q v1 v2 o o2 R2 (r1.mono l2) r2 p2))
theorem dd_op {op : Operator} {r : R2} {g : O → O → M D} {da db : M O} (ho : OpR X (binaryOp op) r) (hr : R2S X.K W r g) (ha : ED X W a ta da) (hb : ED X W b tb db) : DD X W (.BinOp a op b pos) (tOp r ta tb) (dOp g da db) :=
  ⟨pe_op ho ha.pe hb.pe, ev_op hr ha.ev hb.ev⟩
omit [TabEnv] in
def gOr (g g' : O → O → M D) : O → O → M D := fun a b c => match g a b c with
  | .no => g' a b c
  | x => x
theorem R2S.or {K : PySem.W.Frag} {r r' : R2} {g g' : O → O → M D} (h : R2S K W r g) (h' : R2S K W r' g') : R2S K W (fun x y H Q => r x y H Q ∨ r' x y H Q) (gOr g g') := fun Z F μ c σ H Q x y a b R rx ry p => by
  unfold gOr at p
  cases e : g a b c with
  | no => rw [e] at p; exact .inr (h' Z F μ c σ H Q x y a b R rx ry p)
  | ok _ _ => rw [e] at p; exact .inl (h Z F μ c σ H Q x y a b R rx ry (by rw [e]; exact p))
  | ex _ _ => rw [e] at p; exact .inl (h Z F μ c σ H Q x y a b R rx ry (by rw [e]; exact p))
omit [TabEnv] in
/-- two ints -/
def gI (f : Int → Int → Option V) : O → O → M D := fun a b c => match a, b with
  | .d (.v (.int i)), .d (.v (.int j)) => match f i j with
    | some v => .ok (.v v) c
    | none => .no
  | _, _ => .no
theorem r2_int {K : PySem.W.Frag} {r : R2} {f : Int → Int → Option V} (h : ∀ i j v H Q, f i j = some v → Q v H → r (.int i) (.int j) H Q) : R2S K W r (gI f) := fun Z F μ c σ H Q x y a b R rx ry p => by
  unfold gI at p
  split at p
  · next i j =>
    cases rx with
    | d rx =>
      cases rx
      cases ry with
      | d ry =>
        cases ry
        cases e : f i j with
        | none => rw [e] at p; exact p.elim
        | some v => rw [e] at p; exact h i j v H Q e (p F μ H (Le.refl _ _) R v (.v v))
  · exact p.elim
omit [TabEnv] in
/-- two texts -/
def gS (f : Str → Str → Option V) : O → O → M D := fun a b c => match a, b with
  | .d (.v (.str i)), .d (.v (.str j)) => match f i j with
    | some v => .ok (.v v) c
    | none => .no
  | _, _ => .no
theorem r2_str {K : PySem.W.Frag} {r : R2} {f : Str → Str → Option V} (h : ∀ i j v H Q, f i j = some v → Q v H → r (.str i) (.str j) H Q) : R2S K W r (gS f) := fun Z F μ c σ H Q x y a b R rx ry p => by
  unfold gS at p
  split at p
  · next i j =>
    cases rx with
    | d rx =>
      cases rx
      cases ry with
      | d ry =>
        cases ry
        cases e : f i j with
        | none => rw [e] at p; exact p.elim
        | some v => rw [e] at p; exact h i j v H Q e (p F μ H (Le.refl _ _) R v (.v v))
  · exact p.elim
omit [TabEnv] in
def gCat : O → O → M D := fun a b c => match lstD c a, lstD c b with
  | some ds, some es => if ds.length + es.length ≤ 1000000 then .ok (.lst (ds ++ es)) c else .no
  | _, _ => .no
omit [TabEnv] in
theorem small6 {n : Nat} (h : n ≤ 1000000) : n ≤ sizeLine := Nat.le_trans h (by decide)
theorem r2_cat {K : PySem.W.Frag} : R2S K W rCat gCat := fun Z F μ c σ H Q x y a b R rx ry p => by
  unfold gCat at p
  split at p
  · next ds es e1 e2 =>
    obtain ⟨l, vs, rfl, h1, q1⟩ := lst_at R rx e1
    obtain ⟨m, ws, rfl, h2, q2⟩ := lst_at R ry e2
    split at p
    · next hz =>
      refine ⟨l, m, vs, ws, rfl, rfl, h1, h2, small6 (by rw [q1.length, q2.length]; exact hz), fun t ht => ?_⟩
      obtain ⟨R2, l2⟩ := R.new (o := .lst (vs ++ ws)) ht
      exact p _ _ _ l2 R2 _ (.lst upd_same ((q1.append q2).mono l2))
    · exact p.elim
  · exact p.elim
omit [TabEnv] in
def gCatT : O → O → M D := fun a b c => match tupD a, tupD b with
  | some [], some [] => .ok (.tup []) c
  | some (d :: ds), some es => if (d :: ds).length + es.length ≤ 1000000 then .ok (.tup ((d :: ds) ++ es)) c else .no
  | _, _ => .no
omit [TabEnv] in
def gAdd : O → O → M D := gOr (gI fun i j => some (.int (i + j))) (gOr (gS fun x y => if x.length + y.length ≤ 1000000 then some (.str (x ++ y)) else none) gCat)
omit [TabEnv] in
def rAddA : R2 := fun x y H Q => rI0 (fun i j => .int (i + j)) x y H Q ∨ ((∃ i j, x = .str i ∧ y = .str j ∧ i.length + j.length ≤ sizeLine ∧ Q (.str (i ++ j)) H) ∨ rCat x y H Q)
theorem dd_add {da db : M O} (ha : ED X W a ta da) (hb : ED X W b tb db) : DD X W (.BinOp a .Add b pos) (tOp rAddA ta tb) (dOp gAdd da db) :=
  dd_op (OpR.or op_add (OpR.or op_add_str op_cat)) (R2S.or (r2_int fun i j v H Q e q => ⟨i, j, rfl, rfl, by cases e; exact q⟩) (R2S.or (r2_str fun i j v H Q e q => by
    split at e
    · next hz => cases e; exact ⟨i, j, rfl, rfl, small6 hz, q⟩
    · cases e) r2_cat)) ha hb
omit [TabEnv] in
def gSubI : O → O → M D := gI fun i j => some (.int (i - j))
omit [TabEnv] in
def rSubA : R2 := rI0 fun i j => .int (i - j)
theorem dd_sub {da db : M O} (ha : ED X W a ta da) (hb : ED X W b tb db) : DD X W (.BinOp a .Sub b pos) (tOp rSubA ta tb) (dOp gSubI da db) :=
  dd_op op_sub (r2_int fun i j v H Q e q => ⟨i, j, rfl, rfl, by cases e; exact q⟩) ha hb
omit [TabEnv] in
/-- a product that has room -/
def mulOk (i j : Int) : Prop := CMul i j ∨ CMulW i j
omit [TabEnv] in
instance (i j : Int) : Decidable (mulOk i j) := by
  unfold mulOk CMul CMulW
  infer_instance
omit [TabEnv] in
theorem op_mulA : OpR X (binaryOp .Mult) (rI mulOk fun i j => .int (i * j)) := opI fun _ _ _ _ _ _ _ hc q => PyProof.Rows.mul_int q (by
  rcases hc with h | h
  · exact h.ok
  · exact h.ok)
omit [TabEnv] in
def gRep : O → O → M D := fun a b c => match lstD c a, b with
  | some ds, .d (.v (.int k)) => if -(2 ^ 63) ≤ k ∧ k < 2 ^ 63 ∧ ds.length * k.toNat ≤ 1000000 then .ok (.lst (List.replicate k.toNat ds).flatten) c else .no
  | _, _ => .no
theorem r2_rep {K : PySem.W.Frag} : R2S K W rRep gRep := fun Z F μ c σ H Q x y a b R rx ry p => by
  unfold gRep at p
  split at p
  · next ds k e1 =>
    obtain ⟨l, vs, rfl, h1, q1⟩ := lst_at R rx e1
    cases ry with
    | d ry =>
      cases ry
      split at p
      · next hz =>
        refine ⟨l, k, vs, rfl, rfl, h1, hz.1, hz.2.1, small6 (by rw [q1.length]; exact hz.2.2), fun t ht => ?_⟩
        obtain ⟨R2, l2⟩ := R.new (o := .lst (List.replicate k.toNat vs).flatten) ht
        exact p _ _ _ l2 R2 _ (.lst upd_same ((q1.rep k.toNat).mono l2))
      · exact p.elim
  · exact p.elim
omit [TabEnv] in
def gMul : O → O → M D := gOr (gI fun i j => if mulOk i j then some (.int (i * j)) else none) gRep
omit [TabEnv] in
def rMulA : R2 := fun x y H Q => rI mulOk (fun i j => .int (i * j)) x y H Q ∨ rRep x y H Q
theorem dd_mul {da db : M O} (ha : ED X W a ta da) (hb : ED X W b tb db) : DD X W (.BinOp a .Mult b pos) (tOp rMulA ta tb) (dOp gMul da db) :=
  dd_op (OpR.or op_mulA op_rep) (R2S.or (r2_int fun i j v H Q e q => by
    split at e
    · next hz => cases e; exact ⟨i, j, rfl, rfl, hz, q⟩
    · cases e) r2_rep) ha hb
omit [TabEnv] in
/-- a divisor that is served -/
def divOk (j : Int) : Prop := j ≠ 0 ∧ j.natAbs.log2 < 9000
omit [TabEnv] in
instance (j : Int) : Decidable (divOk j) := by
  unfold divOk
  infer_instance
omit [TabEnv] in
theorem op_fdivA : OpR X (binaryOp .FloorDiv) (rI (fun _ j => divOk j) fun i j => .int (i.fdiv j)) := opI fun i j _ _ _ _ _ hc q =>
  PyProof.Rows.floordiv_int hc.1 q (.inl (PyProof.noPylong_of_log2 hc.2))
omit [TabEnv] in
def gDiv : O → O → M D := gI fun i j => if divOk j then some (.int (i.fdiv j)) else none
omit [TabEnv] in
def rDivA : R2 := rI (fun _ j => divOk j) fun i j => .int (i.fdiv j)
theorem dd_div {da db : M O} (ha : ED X W a ta da) (hb : ED X W b tb db) : DD X W (.BinOp a .FloorDiv b pos) (tOp rDivA ta tb) (dOp gDiv da db) :=
  dd_op op_fdivA (r2_int fun i j v H Q e q => by
    split at e
    · next hz => cases e; exact ⟨i, j, rfl, rfl, hz, q⟩
    · cases e) ha hb
omit [TabEnv] in
def gMod : O → O → M D := gI fun i j => if j ≠ 0 then some (.int (i.fmod j)) else none
omit [TabEnv] in
def rModA : R2 := rI (fun _ j => j ≠ 0) fun i j => .int (i.fmod j)
theorem dd_mod {da db : M O} (ha : ED X W a ta da) (hb : ED X W b tb db) : DD X W (.BinOp a .Mod b pos) (tOp rModA ta tb) (dOp gMod da db) :=
  dd_op op_modN (r2_int fun i j v H Q e q => by
    split at e
    · next hz => cases e; exact ⟨i, j, rfl, rfl, hz, q⟩
    · cases e) ha hb
omit [TabEnv] in
instance (i j : Int) : Decidable (CPow i j) := by
  unfold CPow
  infer_instance
omit [TabEnv] in
def gPow : O → O → M D := gI fun i j => if CPow i j then some (.int (i ^ j.toNat)) else none
omit [TabEnv] in
def rPowA : R2 := rI CPow fun i j => .int (i ^ j.toNat)
theorem dd_pow {da db : M O} (ha : ED X W a ta da) (hb : ED X W b tb db) : DD X W (.BinOp a .Pow b pos) (tOp rPowA ta tb) (dOp gPow da db) :=
  dd_op op_pow (r2_int fun i j v H Q e q => by
    split at e
    · next hz => cases e; exact ⟨i, j, rfl, rfl, hz, q⟩
    · cases e) ha hb
omit [TabEnv] in
/-- -a -/
def dNeg (da : M O) : M D := M.bind da fun a c => match a with
  | .d (.v (.int i)) => .ok (.v (.int (-i))) c
  | _ => .no
theorem dd_neg {da : M O} (ha : ED X W a ta da) : DD X W (.UnaryOp .USub a pos) (tUn (rU fun i => .int (-i)) ta) (dNeg da) := by
  refine ⟨pe_un un_neg ha.pe, fun Z F μ c σ H Q R p => ha.ev Z F μ c σ H _ R (p.bind.imp fun o c1 F1 μ1 H1 l1 R1 p1 v1 r1 => ?_)⟩
  split at p1
  · cases r1 with
    | d r => cases r; exact ⟨_, rfl, p1 F1 μ1 H1 (Le.refl _ _) R1 _ (.v _)⟩
  · exact p1.elim

/-! ### items, lengths -/
omit [TabEnv] in
def gIx : O → O → M D := fun a b c => match b with
  | .d (.v (.int i)) => match a with
    | .d (.v (.str x)) => if x.length ≤ 1000000 then match atI x.cps.toList i with
        | some k => .ok (.v (.str ⟨#[k]⟩)) c
        | none => .no
      else .no
    | a => match seqD c a with
      | some ds => match atI ds i with
        | some d => .ok d c
        | none => .no
      | none => .no
  | _ => .no
omit [TabEnv] in
theorem reps_atI {K : PySem.W.Frag} {F : Hp} {μ : List Addr} {vs : List V} {ds : List D} {i : Int} {d : D} (r : Reps K F μ vs ds) (e : atI ds i = some d) : ∃ v, atI vs i = some v ∧ Rep K F μ v d := by
  unfold atI at e ⊢
  rw [r.length]
  cases q : ixN ds.length i with
  | none => rw [q] at e; cases e
  | some j =>
    rw [q] at e
    exact r.get e
theorem r2_ix {K : PySem.W.Frag} : R2S K W (rIx K) gIx := fun Z F μ c σ H Q x y a b R rx ry p => by
  unfold gIx at p
  split at p
  · next i =>
    cases ry with
    | d ry =>
      cases ry
      split at p
      · next z =>
        cases rx with
        | d rx =>
          cases rx
          split at p
          · next hz =>
            split at p
            · next k hk => exact .inr (.inr ⟨z, i, k, rfl, rfl, small6 hz, hk, p F μ H (Le.refl _ _) R _ (.v _)⟩)
            · exact p.elim
          · exact p.elim
      · split at p
        · next ds hs =>
          split at p
          · next d hd =>
            obtain ⟨l, vs, rfl, h1, q1⟩ := seq_at R rx hs
            obtain ⟨v, hv, rv⟩ := reps_atI q1 hd
            rcases h1 with h1 | h1
            · exact .inl ⟨l, vs, i, v, rfl, rfl, h1, hv, p F μ H (Le.refl _ _) R _ rv⟩
            · exact .inr (.inl ⟨l, vs, i, v, rfl, rfl, h1, hv, p F μ H (Le.refl _ _) R _ rv⟩)
          · exact p.elim
        · exact p.elim
  · exact p.elim
theorem dd_ix {K : PySem.W.Frag} {da db : M O} (ha : ED X W a ta da) (hb : ED X W b tb db) (hs : PlainIx b) (hK : X.K = K := by rfl) : DD X W (.Subscript a b pos) (tOp (rIx K) ta tb) (dOp gIx da db) := by
  subst hK
  exact ⟨pe_ix ix_seq ha.pe hb.pe hs, ev_op r2_ix ha.ev hb.ev⟩
/-- a built-in of one operand -/
def C1S (K : PySem.W.Frag) (W : WX) (r : List V → Hp → VK → Prop) (g : O → M D) : Prop := ∀ (Z F : Hp) (μ : List Addr) (c : Stt) (σ : St) (H : Hp) (Q : VK) (x : V) (a : O), Rel K Z F μ c σ H → RepO K F μ σ x a →
  Post K Z F μ σ W (g a c) (fun d _ F' μ' H' => ∀ v, Rep K F' μ' v d → Q v H') → r [x] H Q
theorem ev_c1 {K : PySem.W.Frag} {r : List V → Hp → VK → Prop} {g : O → M D} {da : M O} (hr : C1S K W r g) (ha : EvE K W ta da) : EvD K W (tCB r (tCons ta tNil)) (M.bind da g) := fun Z F μ c σ H Q R p =>
  ha Z F μ c σ H _ R (p.bind.imp fun o c1 F1 μ1 H1 l1 R1 p1 v1 r1 => hr Z F1 μ1 c1 σ H1 Q v1 o R1 r1 p1)
/-- a built-in's rule: of the text's machine, of the image -/
structure B1 (X : Cx) (W : WX) (f : Value) (r : List V → Hp → VK → Prop) (g : O → M D) : Prop where
  c : CallR X f r
  g : C1S X.K W r g
theorem dd_b1 {id : String} {x : Str} {p : Pos} {r : List V → Hp → VK → Prop} {g : O → M D} {da : M O} (hc : B1 X W (.builtin id) r g) (hg : Gl X x) (hm : X.mg x = none) (hv : bootBuiltins x = some (.builtin id)) (ha : ED X W a ta da)
    (hs : starEach [a] X.env = (false, eval a X.env) :: starEach [] X.env := by rfl) (hn : x ≠ "__name__" := by decide) (hdb : (x == ("__debug__" : Str)) = false := by decide)
    (he : starEach [a] X.env = (false, eval a X.env) :: starEach [] X.env := by rfl) (hpl : (backTo pos (starEach [] X.env)).any (·.1) = false := by rfl) :
    DD X W (.Call (.Name x p) [a] [] pos) (tCB r (tCons ta tNil)) (M.bind da g) := ⟨pe_callB hc.c hg hm hv (pa_cons ha.pe pa_nil hs) hn hdb he hpl, ev_c1 hc.g ha.ev⟩
theorem dd_t1 {T : String} {x : Str} {p : Pos} {r : List V → Hp → VK → Prop} {g : O → M D} {da : M O} (hc : B1 X W (.type T) r g) (hg : Gl X x) (hm : X.mg x = none) (hv : bootBuiltins x = some (.type T)) (ha : ED X W a ta da)
    (hs : starEach [a] X.env = (false, eval a X.env) :: starEach [] X.env := by rfl) (hn : x ≠ "__name__" := by decide) (hdb : (x == ("__debug__" : Str)) = false := by decide)
    (he : starEach [a] X.env = (false, eval a X.env) :: starEach [] X.env := by rfl) (hpl : (backTo pos (starEach [] X.env)).any (·.1) = false := by rfl) :
    DD X W (.Call (.Name x p) [a] [] pos) (tCB r (tCons ta tNil)) (M.bind da g) := ⟨pe_callTy hc.c hg hm hv (pa_cons ha.pe pa_nil hs) hn hdb he hpl, ev_c1 hc.g ha.ev⟩
omit [TabEnv] in
def gLen : O → M D := fun a c => match a with
  | .d (.v (.str x)) => if x.length ≤ 1000000 then .ok (.v (.int x.length)) c else .no
  | a => match seqD c a with
    | some ds => .ok (.v (.int ds.length)) c
    | none => .no
theorem c1_len {K : PySem.W.Frag} : C1S K W (fun xs H Q => ∃ x n, xs = [x] ∧ LenV K x H n ∧ Q (.int n) H) gLen := fun Z F μ c σ H Q x a R rx p => by
  unfold gLen at p
  split at p
  · next z =>
    cases rx with
    | d rx =>
      cases rx
      split at p
      · next hz => exact ⟨_, _, rfl, ⟨small6 hz, rfl⟩, p F μ H (Le.refl _ _) R _ (.v _)⟩
      · exact p.elim
  · split at p
    · next ds hs =>
      obtain ⟨l, vs, rfl, h1, q1⟩ := seq_at R rx hs
      refine ⟨_, ds.length, rfl, ?_, p F μ H (Le.refl _ _) R _ (.v _)⟩
      rcases h1 with h1 | h1
      · exact .inl ⟨vs, h1, q1.length.symm⟩
      · exact .inr ⟨vs, h1, q1.length.symm⟩
    · exact p.elim
omit [TabEnv] in
def absZ (i : Int) : Int := if i < 0 then -i else i
omit [TabEnv] in
def gAbs : O → M D := fun a c => match a with
  | .d (.v (.int i)) => .ok (.v (.int (absZ i))) c
  | _ => .no
theorem c1_abs {K : PySem.W.Frag} : C1S K W (fun xs H Q => ∃ i, xs = [.int i] ∧ Q (.int (if i < 0 then -i else i)) H) gAbs := fun Z F μ c σ H Q x a R rx p => by
  unfold gAbs at p
  split at p
  · cases rx with
    | d rx => cases rx; exact ⟨_, rfl, p F μ H (Le.refl _ _) R _ (.v _)⟩
  · exact p.elim
omit [TabEnv] in
def gInt1 : O → M D := fun a c => match a with
  | .d (.v (.int i)) => .ok (.v (.int i)) c
  | .d (.v (.bl k)) => .ok (.v (.int (if k then 1 else 0))) c
  | _ => .no
theorem c1_int {K : PySem.W.Frag} : C1S K W (fun xs H Q => (∃ i, xs = [.int i] ∧ Q (.int i) H) ∨ ∃ k, xs = [.bl k] ∧ Q (.int (if k then 1 else 0)) H) gInt1 := fun Z F μ c σ H Q x a R rx p => by
  unfold gInt1 at p
  split at p
  · cases rx with
    | d rx => cases rx; exact .inl ⟨_, rfl, p F μ H (Le.refl _ _) R _ (.v _)⟩
  · cases rx with
    | d rx => cases rx; exact .inr ⟨_, rfl, p F μ H (Le.refl _ _) R _ (.v _)⟩
  · exact p.elim
omit [TabEnv] in
def gStr1 : O → M D := fun a c => match a with
  | .d (.v (.int i)) => if i.natAbs.log2 < 1920 then .ok (.v (.str (toString i))) c else .no
  | _ => .no
theorem c1_str {K : PySem.W.Frag} : C1S K W (fun xs H Q => ∃ i, xs = [.int i] ∧ i.natAbs.log2 < 1920 ∧ Q (.str (toString i)) H) gStr1 := fun Z F μ c σ H Q x a R rx p => by
  unfold gStr1 at p
  split at p
  · split at p
    · next hz =>
      cases rx with
      | d rx => cases rx; exact ⟨_, rfl, hz, p F μ H (Le.refl _ _) R _ (.v _)⟩
    · exact p.elim
  · exact p.elim
omit [TabEnv] in
def rLenA (K : PySem.W.Frag) : List V → Hp → VK → Prop := fun xs H Q => ∃ x n, xs = [x] ∧ LenV K x H n ∧ Q (.int n) H
theorem bLen {K : PySem.W.Frag} (hK : X.K = K := by rfl) : B1 X W (.builtin "len") (rLenA K) gLen := by
  subst hK
  exact ⟨call_len, c1_len⟩
omit [TabEnv] in
def rAbsA : List V → Hp → VK → Prop := fun xs H Q => ∃ i, xs = [.int i] ∧ Q (.int (if i < 0 then -i else i)) H
theorem bAbs : B1 X W (.builtin "abs") rAbsA gAbs := ⟨call_abs, c1_abs⟩
omit [TabEnv] in
def rIntA : List V → Hp → VK → Prop := fun xs H Q => (∃ i, xs = [.int i] ∧ Q (.int i) H) ∨ ∃ k, xs = [.bl k] ∧ Q (.int (if k then 1 else 0)) H
theorem bInt : B1 X W (.type "int") rIntA gInt1 := ⟨call_int1, c1_int⟩
omit [TabEnv] in
def rStrA : List V → Hp → VK → Prop := fun xs H Q => ∃ i, xs = [.int i] ∧ i.natAbs.log2 < 1920 ∧ Q (.str (toString i)) H
theorem bStr : B1 X W (.type "str") rStrA gStr1 := ⟨call_str_int, c1_str⟩
end
end My

set_option Elab.async false
set_option linter.all false
set_option maxRecDepth 100000
set_option maxHeartbeats 4000000
/-! F4: comparisons, tests, displays, calls. -/
namespace My
open PySem L2
variable [TabEnv]

/-! ### == by data -/
omit [TabEnv] in
mutual
def pyD : D → Option PyData
  | .v .non => some .none
  | .v (.bl b) => some (.bool b)
  | .v (.int i) => some (.int i)
  | .v (.str x) => some (.str x)
  | .tup ds => (pyDs ds).map .tuple
  | .lst ds => (pyDs ds).map .list
  | .scr ds => (pyDs ds).map .list
  | _ => none
def pyDs : List D → Option (List PyData)
  | [] => some []
  | d :: ds => match pyD d, pyDs ds with
    | some p, some ps => some (p :: ps)
    | _, _ => none
end
omit [TabEnv] in
/-- an operand as data -/
def pyO (c : Stt) : O → Option PyData
  | .d (.loc n) => match c.S[n]? with
    | some (.lst ds) => (pyDs ds).map .list
    | _ => none
  | .d x => pyD x
  | .sl i => match c.r[i]? with
    | some (.own (.lst ds)) => (pyDs ds).map .list
    | some (.d (.lst ds)) => (pyDs ds).map .list
    | _ => none
section
variable {K : PySem.W.Frag} {Z F : Hp} {μ : List Addr} {c : Stt} {σ : St} {H : Hp} {W : WX}
omit [TabEnv] in
mutual
theorem dp_of (ex : Same F H) : ∀ {d : D} {v : V} {p : PyData}, Rep K F μ v d → pyD d = some p → Dp K H v p
  | _, _, _, Rep.v x, e => by
    cases x <;> unfold pyD at e <;> cases e <;> constructor
  | _, _, _, .tup (ds := ds) h r, e => by
    unfold pyD at e
    cases q : pyDs ds with
    | none => rw [q] at e; cases e
    | some ps => rw [q] at e; cases e; exact .tup (Same.seqT ex h) (dps_of ex r q)
  | _, _, _, .lst (ds := ds) h r, e => by
    unfold pyD at e
    cases q : pyDs ds with
    | none => rw [q] at e; cases e
    | some ps => rw [q] at e; cases e; exact .lst (.of (ex _ _ h)) (dps_of ex r q)
  | _, _, _, .scr (ds := ds) h r, e => by
    unfold pyD at e
    cases q : pyDs ds with
    | none => rw [q] at e; cases e
    | some ps => rw [q] at e; cases e; exact .lst (ex.seq h) (dps_of ex r q)
  | _, _, _, .dct _ _ _, e => by unfold pyD at e; cases e
  | _, _, _, .ins _ _ _, e => by unfold pyD at e; cases e
  | _, _, _, .loc _, e => by unfold pyD at e; cases e
theorem dps_of (ex : Same F H) : ∀ {ds : List D} {vs : List V} {ps : List PyData}, Reps K F μ vs ds → pyDs ds = some ps → DpAll K H vs ps
  | _, _, _, .nil, e => by unfold pyDs at e; cases e; exact .nil
  | _, _, _, .cons (d := d) (ds := ds) h r, e => by
    unfold pyDs at e
    cases q : pyD d with
    | none => rw [q] at e; cases e
    | some p =>
      rw [q] at e
      cases q2 : pyDs ds with
      | none => rw [q2] at e; cases e
      | some ps => rw [q2] at e; cases e; exact .cons (dp_of ex h q) (dps_of ex r q2)
end
theorem dpO_of {o : O} {v : V} {p : PyData} (R : Rel K Z F μ c σ H) (r : RepO K F μ σ v o) (e : pyO c o = some p) : Dp K H v p := by
  have lists : ∀ {ds : List D}, lstD c o = some ds → (pyDs ds).map PyData.list = some p → Dp K H v p := fun {ds} h1 h2 => by
    obtain ⟨a, vs, rfl, h3, q⟩ := lst_at R r h1
    cases q2 : pyDs ds with
    | none => rw [q2] at h2; cases h2
    | some ps => rw [q2] at h2; cases h2; exact .lst (.of h3) (dps_of R.ex q q2)
  cases o with
  | d x =>
    cases r with
    | d r =>
      cases x with
      | loc n =>
        unfold pyO at e
        dsimp only at e
        split at e
        · next ds hs => exact lists (by unfold lstD; dsimp only; rw [hs]) e
        · cases e
      | _ => exact dp_of R.ex r e
  | sl i =>
    unfold pyO at e
    dsimp only at e
    split at e
    · next ds hs => exact lists (by unfold lstD; dsimp only; rw [hs]) e
    · next ds hs => exact lists (by unfold lstD; dsimp only; rw [hs]) e
    · cases e
omit [TabEnv] in
mutual
theorem pyD_plain : ∀ {d : D} {p : PyData}, pyD d = some p → p.plain = true
  | .v x, p, e => by
    cases x <;> unfold pyD at e <;> cases e <;> rfl
  | .tup ds, p, e => by
    unfold pyD at e
    cases q : pyDs ds with
    | none => rw [q] at e; cases e
    | some ps =>
      rw [q] at e
      cases e
      show PyData.plain (.tuple ps) = true
      unfold PyData.plain
      exact pyDs_plain q
  | .lst ds, p, e => by
    unfold pyD at e
    cases q : pyDs ds with
    | none => rw [q] at e; cases e
    | some ps =>
      rw [q] at e
      cases e
      show PyData.plain (.list ps) = true
      unfold PyData.plain
      exact pyDs_plain q
  | .scr ds, p, e => by
    unfold pyD at e
    cases q : pyDs ds with
    | none => rw [q] at e; cases e
    | some ps =>
      rw [q] at e
      cases e
      show PyData.plain (.list ps) = true
      unfold PyData.plain
      exact pyDs_plain q
  | .dct _, _, e => by unfold pyD at e; cases e
  | .ins _ _, _, e => by unfold pyD at e; cases e
  | .loc _, _, e => by unfold pyD at e; cases e
theorem pyDs_plain : ∀ {ds : List D} {ps : List PyData}, pyDs ds = some ps → PyData.plainAll ps = true
  | [], ps, e => by unfold pyDs at e; cases e; rfl
  | d :: ds, ps, e => by
    unfold pyDs at e
    cases q : pyD d with
    | none => rw [q] at e; cases e
    | some p =>
      rw [q] at e
      cases q2 : pyDs ds with
      | none => rw [q2] at e; cases e
      | some ps =>
        rw [q2] at e
        cases e
        show (p.plain && PyData.plainAll ps) = true
        rw [pyD_plain q, pyDs_plain q2]
        rfl
end
omit [TabEnv] in
theorem lists_plain {ds : List D} {p : PyData} (e : (pyDs ds).map PyData.list = some p) : p.plain = true := by
  cases q : pyDs ds with
  | none => rw [q] at e; cases e
  | some ps =>
    rw [q] at e
    cases e
    show PyData.plain (.list ps) = true
    unfold PyData.plain
    exact pyDs_plain q
omit [TabEnv] in
theorem pyO_plain {o : O} {p : PyData} (e : pyO c o = some p) : p.plain = true := by
  unfold pyO at e
  split at e
  · split at e
    · exact lists_plain e
    · cases e
  · exact pyD_plain e
  · split at e
    · exact lists_plain e
    · exact lists_plain e
    · cases e
omit [TabEnv] in
def gEq (neg : Bool) : O → O → M D := fun a b c => match pyO c a, pyO c b with
  | some p, some q => if p.depth ≤ 64 then .ok (.v (.bl (if neg then !PyData.eqv p q else PyData.eqv p q))) c else .no
  | _, _ => .no
omit [TabEnv] in
def rEqP (K : PySem.W.Frag) (neg : Bool) : R2 := fun x y H Q => ∃ d e, Dp K H x d ∧ Dp K H y e ∧ d.plain = true ∧ e.plain = true ∧ d.depth ≤ 64 ∧ Q (.bl (if neg then !PyData.eqv d e else PyData.eqv d e)) H
theorem r2_eq (neg : Bool) : R2S K W (rEqP K neg) (gEq neg) := fun Z F μ c σ H Q x y a b R rx ry p => by
  unfold gEq at p
  split at p
  · next d e h1 h2 =>
    split at p
    · next hs => exact ⟨d, e, dpO_of R rx h1, dpO_of R ry h2, pyO_plain h1, pyO_plain h2, hs, p F μ H (Le.refl _ _) R _ (.v _)⟩
    · exact p.elim
  · exact p.elim
omit [TabEnv] in
/-- is None -/
def isNon : D → Bool
  | .v x => decide (x = .non)
  | _ => false
omit [TabEnv] in
def gNone (neg : Bool) : O → O → M D := fun a b c => match b with
  | .d (.v .non) => match a with
    | .d x => .ok (.v (.bl (if neg then !isNon x else isNon x))) c
    | .sl _ => .no
  | _ => .no
omit [TabEnv] in
def rNoneA (neg : Bool) : R2 := fun x y H Q => y = .non ∧ Q (.bl (if neg then !decide (x = .non) else decide (x = .non))) H
omit [TabEnv] in
theorem rep_non {v : V} {d : D} (h : Rep K F μ v d) : isNon d = decide (v = .non) := by
  cases h with
  | v x => rfl
  | _ => rfl
theorem r2_none (neg : Bool) : R2S K W (rNoneA neg) (gNone neg) := fun Z F μ c σ H Q x y a b R rx ry p => by
  unfold gNone at p
  split at p
  · cases ry with
    | d ry =>
      cases ry
      refine ⟨rfl, ?_⟩
      split at p
      · cases rx with
        | d rx =>
          have := p F μ H (Le.refl _ _) R _ (.v _)
          rw [rep_non rx] at this
          exact this
      · exact p.elim
  · exact p.elim

omit [TabEnv] in
def iLt : Int → Int → Option V := fun i j => some (.bl (decide (i < j)))
omit [TabEnv] in
def iLe : Int → Int → Option V := fun i j => some (.bl (decide (i ≤ j)))
omit [TabEnv] in
def iGt : Int → Int → Option V := fun i j => some (.bl (decide (j < i)))
omit [TabEnv] in
def iGe : Int → Int → Option V := fun i j => some (.bl (decide (j ≤ i)))
theorem r2_lt : R2S K W (rI0 fun i j => .bl (decide (i < j))) (gI iLt) := r2_int fun i j v H Q e q => ⟨i, j, rfl, rfl, by cases e; exact q⟩
theorem r2_le : R2S K W (rI0 fun i j => .bl (decide (i ≤ j))) (gI iLe) := r2_int fun i j v H Q e q => ⟨i, j, rfl, rfl, by cases e; exact q⟩
theorem r2_gt : R2S K W (rI0 fun i j => .bl (decide (j < i))) (gI iGt) := r2_int fun i j v H Q e q => ⟨i, j, rfl, rfl, by cases e; exact q⟩
theorem r2_ge : R2S K W (rI0 fun i j => .bl (decide (j ≤ i))) (gI iGe) := r2_int fun i j v H Q e q => ⟨i, j, rfl, rfl, by cases e; exact q⟩
omit [TabEnv] in
/-- plain flat values -/
def vsD : List D → Option (List V)
  | [] => some []
  | .v x :: ds => if flatV x = true then (vsD ds).map (x :: ·) else none
  | _ :: _ => none
omit [TabEnv] in
theorem vs_of {F : Hp} {μ : List Addr} : ∀ {ds : List D} {vs xs : List V}, Reps K F μ vs ds → vsD ds = some xs → vs = xs ∧ xs.all flatV = true
  | [], vs, xs, h, e => by cases h; unfold vsD at e; cases e; exact ⟨rfl, rfl⟩
  | .v x :: ds, vs, xs, h, e => by
    cases h with
    | cons h r =>
      cases h
      unfold vsD at e
      split at e
      · next hf =>
        cases q : vsD ds with
        | none => rw [q] at e; cases e
        | some ys =>
          rw [q] at e
          cases e
          obtain ⟨rfl, ha⟩ := vs_of r q
          exact ⟨rfl, by rw [List.all_cons, hf, ha]; rfl⟩
      · cases e
  | .tup _ :: _, _, _, _, e => by unfold vsD at e; cases e
  | .lst _ :: _, _, _, _, e => by unfold vsD at e; cases e
  | .scr _ :: _, _, _, _, e => by unfold vsD at e; cases e
  | .dct _ :: _, _, _, _, e => by unfold vsD at e; cases e
  | .ins _ _ :: _, _, _, _, e => by unfold vsD at e; cases e
  | .loc _ :: _, _, _, _, e => by unfold vsD at e; cases e
omit [TabEnv] in
def gIn (neg : Bool) : O → O → M D := fun a b c => match a with
  | .d (.v x) => if flatV x = true then match (seqD c b).bind vsD with
      | some xs => .ok (.v (.bl (if neg then !inV x xs else inV x xs))) c
      | none => .no
    else .no
  | _ => .no
theorem r2_in (neg : Bool) : R2S K W (rIn K neg) (gIn neg) := fun Z F μ c σ H Q x y a b R rx ry p => by
  unfold gIn at p
  split at p
  · next z =>
    cases rx with
    | d rx =>
      cases rx
      split at p
      · next hf =>
        split at p
        · next xs hx =>
          cases q : seqD c b with
          | none => rw [q] at hx; cases hx
          | some ds =>
            rw [q] at hx
            obtain ⟨l, vs, rfl, h1, q1⟩ := seq_at R ry q
            obtain ⟨rfl, ha⟩ := vs_of q1 hx
            exact ⟨l, vs, rfl, h1, hf, ha, p F μ H (Le.refl _ _) R _ (.v _)⟩
        · exact p.elim
      · exact p.elim
  · exact p.elim
omit [TabEnv] in
/-- one sign in a text -/
def gSign (neg : Bool) : O → O → M D := fun a b c => match a, b with
  | .d (.v (.str x)), .d (.v (.str z)) => match x.cps.toList with
    | [k] => .ok (.v (.bl (if neg then !decide (k ∈ z.cps.toList) else decide (k ∈ z.cps.toList)))) c
    | _ => .no
  | _, _ => .no
omit [TabEnv] in
def rSign (neg : Bool) : R2 := fun x y H Q => ∃ (k : Nat) (z : Str), x = .str ⟨#[k]⟩ ∧ y = .str z ∧ Q (.bl (if neg then !decide (k ∈ z.cps.toList) else decide (k ∈ z.cps.toList))) H
omit [TabEnv] in
theorem str_one {x : Str} {k : Nat} (h : x.cps.toList = [k]) : x = ⟨#[k]⟩ := by
  obtain ⟨cps⟩ := x
  have : cps = #[k] := by
    have := congrArg List.toArray h
    simpa using this
  rw [this]
theorem r2_sign (neg : Bool) : R2S K W (rSign neg) (gSign neg) := fun Z F μ c σ H Q x y a b R rx ry p => by
  unfold gSign at p
  split at p
  · next x z =>
    cases rx with
    | d rx =>
      cases rx
      cases ry with
      | d ry =>
        cases ry
        split at p
        · next k hk => exact ⟨k, z, by rw [str_one hk], rfl, p F μ H (Le.refl _ _) R _ (.v _)⟩
        · exact p.elim
  · exact p.elim
end

section
variable {X : Cx} {W : WX} {a b : Expr} {t ta tb : TE} {pos : Pos} {da db : M O}
/-- a comparison's rule: of the text's machine, of the image -/
structure CmpR (X : Cx) (W : WX) (op : CmpOp) (r : R2) (g : O → O → M D) : Prop where
  op : OpR X (compareOp op) r
  g : R2S X.K W r g
omit [TabEnv] in
theorem op_eqP (neg : Bool) (hu : X.A.units + 64 < cLine) : OpR X (compareOp (if neg then .NotEq else .Eq)) (rEqP X.K neg) := by
  intro pins s σ H x y v u Q I rx ry h
  obtain ⟨d, e, hd, he, pd, pe, hz, q⟩ := h
  obtain ⟨as, r1⟩ := Dp.reads I d x v hd rx
  obtain ⟨bs, r2⟩ := Dp.reads I e y u he ry
  have hm : X.A.units + min d.depth e.depth < cLine := by
    have : min d.depth e.depth ≤ d.depth := Nat.min_le_left _ _
    omega
  cases neg with
  | false => exact PySem.SeqAt.eq_plain r1 r2 pd pe hm ⟨.bl _, H, I, rfl, q⟩
  | true => exact PySem.SeqAt.ne_plain r1 r2 pd pe hm ⟨.bl _, H, I, rfl, q⟩
theorem cEq {K : PySem.W.Frag} (hu : X.A.units + 64 < cLine) (hK : X.K = K := by rfl) : CmpR X W .Eq (rEqP K false) (gEq false) := by
  subst hK
  exact ⟨op_eqP false hu, r2_eq false⟩
theorem cNe {K : PySem.W.Frag} (hu : X.A.units + 64 < cLine) (hK : X.K = K := by rfl) : CmpR X W .NotEq (rEqP K true) (gEq true) := by
  subst hK
  exact ⟨op_eqP true hu, r2_eq true⟩
theorem cLt : CmpR X W .Lt (rI0 fun i j => .bl (decide (i < j))) (gI iLt) := ⟨op_lt, r2_lt⟩
theorem cLe : CmpR X W .LtE (rI0 fun i j => .bl (decide (i ≤ j))) (gI iLe) := ⟨op_le, r2_le⟩
theorem cGt : CmpR X W .Gt (rI0 fun i j => .bl (decide (j < i))) (gI iGt) := ⟨op_gt, r2_gt⟩
theorem cGe : CmpR X W .GtE (rI0 fun i j => .bl (decide (j ≤ i))) (gI iGe) := ⟨op_ge, r2_ge⟩
theorem cIs : CmpR X W .Is (rNoneA false) (gNone false) := ⟨op_isN, r2_none false⟩
theorem cIsNot : CmpR X W .IsNot (rNoneA true) (gNone true) := ⟨op_notN, r2_none true⟩
omit [TabEnv] in
def rInA (K : PySem.W.Frag) (neg : Bool) : R2 := fun x y H Q => rIn K neg x y H Q ∨ rSign neg x y H Q
theorem cIn {K : PySem.W.Frag} (hK : X.K = K := by rfl) : CmpR X W .In (rInA K false) (gOr (gIn false) (gSign false)) := by
  subst hK
  exact ⟨op_in_seq.or op_in_sign, (r2_in false).or (r2_sign false)⟩
theorem cNotIn {K : PySem.W.Frag} (hK : X.K = K := by rfl) : CmpR X W .NotIn (rInA K true) (gOr (gIn true) (gSign true)) := by
  subst hK
  exact ⟨op_notIn_seq.or op_notIn_sign, (r2_in true).or (r2_sign true)⟩
theorem dd_cmp {op : CmpOp} {r : R2} {g : O → O → M D} (h : CmpR X W op r g) (ha : ED X W a ta da) (hb : ED X W b tb db) (hm : behindInMarks op b = false) : DD X W (.Compare a [op] [b] pos) (tOp r ta tb) (dOp g da db) :=
  ⟨pe_cmpR h.op ha.pe hb.pe hm, ev_op h.g ha.ev hb.ev⟩
omit [TabEnv] in
/-- what a value is as a test -/
def truD (c : Stt) : O → Option Bool
  | .d (.v .non) => some false
  | .d (.v (.bl b)) => some b
  | .d (.v (.int i)) => some (i != 0)
  | .d (.v (.str x)) => if x.length ≤ 1000000 then some ((x.length : Int) != 0) else none
  | o => (seqD c o).map fun ds => !ds.isEmpty
omit [TabEnv] in
def gTru (o : O) : M Bool := fun c => match truD c o with
  | some b => .ok b c
  | none => .no
theorem tru_of {K : PySem.W.Frag} {Z F : Hp} {μ : List Addr} {c : Stt} {σ : St} {H : Hp} {v : V} {o : O} {b : Bool} (R : Rel K Z F μ c σ H) (r : RepO K F μ σ v o) (e : truD c o = some b) : TruV K v H b := by
  unfold truD at e
  split at e
  · cases r with | d r => cases r; cases e; rfl
  · cases r with | d r => cases r; cases e; rfl
  · cases r with | d r => cases r; cases e; rfl
  · cases r with
    | d r =>
      cases r
      split at e
      · next hz => cases e; exact ⟨small6 hz, rfl⟩
      · cases e
  · cases q : seqD c o with
    | none => rw [q] at e; cases e
    | some ds =>
      rw [q] at e
      cases e
      obtain ⟨l, vs, rfl, h1, q1⟩ := seq_at R r q
      have el : (!vs.isEmpty) = !ds.isEmpty := by
        have := q1.length
        cases vs <;> cases ds <;> simp_all
      rcases h1 with h1 | h1
      · exact .inl ⟨vs, h1, el.symm⟩
      · exact .inr (.inl ⟨vs, h1, el.symm⟩)
omit [TabEnv] in
def tTru (K : PySem.W.Frag) (t : TE) : TT := fun σ H Q => t σ H fun x H' => ∃ k, TruV K x H' k ∧ Q k H'
omit [TabEnv] in
def dTru (a : M O) : M Bool := M.bind a gTru
theorem td_val {K : PySem.W.Frag} {e : Expr} (h : ED X W e t da) (hK : X.K = K := by rfl) (he : ∀ whole, isTrue e X.env whole = (do let v ← whole; standAt e.pos; holding [v] (truthy v)) := by intro _; rfl) : TD X W e (tTru K t) (dTru da) := by
  subst hK
  exact ⟨pt_truth h.pe he, fun Z F μ c σ H Q R p => h.ev Z F μ c σ H _ R (p.bind.imp fun o c1 F1 μ1 H1 l1 R1 p1 v1 r1 => by
    unfold gTru at p1
    split at p1
    · next b hb => exact ⟨b, tru_of R1 r1 hb, p1 F1 μ1 H1 (Le.refl _ _) R1⟩
    · exact p1.elim)⟩
omit [TabEnv] in
def gBool (x : D) : M Bool := fun c => match x with
  | .v (.bl b) => .ok b c
  | _ => .no
omit [TabEnv] in
def dCmpT (g : O → O → M D) (a b : M O) : M Bool := M.bind (dOp g a b) gBool
theorem td_cmp {op : CmpOp} {r : R2} {g : O → O → M D} (h : CmpR X W op r g) (ha : ED X W a ta da) (hb : ED X W b tb db) (hm : behindInMarks op b = false) : TD X W (.Compare a [op] [b] pos) (tTest (tOp r ta tb)) (dCmpT g da db) :=
  ⟨pt_cmpR h.op ha.pe hb.pe hm, fun Z F μ c σ H Q R p => ev_op h.g ha.ev hb.ev Z F μ c σ H _ R (p.bind.imp fun x c1 F1 μ1 H1 l1 R1 p1 v1 r1 => by
    unfold gBool at p1
    split at p1
    · cases r1; exact ⟨_, rfl, p1 F1 μ1 H1 (Le.refl _ _) R1⟩
    · exact p1.elim)⟩
omit [TabEnv] in
/-- a op b op' c -/
def dChain (g g' : O → O → M D) (da db dc : M O) : M D := M.bind da fun x => M.bind db fun y => M.bind (M.bind (g x y) gBool) fun k => if k = true then M.bind dc fun z => g' y z else M.pure (.v (.bl false))
theorem dd_chain {op op' : CmpOp} {r r' : R2} {g g' : O → O → M D} {e : Expr} {tc : TE} {dc : M O} (h : CmpR X W op r g) (h' : CmpR X W op' r' g') (ha : ED X W a ta da) (hb : ED X W b tb db) (hc : ED X W e tc dc)
    (hm : lastMarks [op, op'] [b, e] = false := by rfl) : DD X W (.Compare a [op, op'] [b, e] pos) (tChain r r' ta tb tc) (dChain g g' da db dc) := by
  refine ⟨pe_chain h.op h'.op ha.pe hb.pe hc.pe hm, fun Z F μ c σ H Q R p => ?_⟩
  refine ha.ev Z F μ c σ H _ R (p.bind.imp fun o c1 F1 μ1 H1 l1 R1 p1 v1 r1 => hb.ev Z F1 μ1 c1 σ H1 _ R1 (p1.bind.imp fun o2 c2 F2 μ2 H2 l2 R2 p2 v2 r2 => ?_))
  refine h.g Z F2 μ2 c2 σ H2 _ v1 v2 o o2 R2 (r1.mono l2) r2 (p2.bind.bind.imp fun x c3 F3 μ3 H3 l3 R3 p3 v3 r3 => ?_)
  unfold gBool at p3
  split at p3
  · next k =>
    cases r3
    have p4 := p3 F3 μ3 H3 (Le.refl _ _) R3
    refine ⟨k, rfl, ?_⟩
    cases k with
    | true => exact hc.ev Z F3 μ3 c3 σ H3 _ R3 (p4.bind.imp fun o4 c4 F4 μ4 H4 l4 R4 p5 v4 r4 => h'.g Z F4 μ4 c4 σ H4 Q v2 v4 o2 o4 R4 ((r2.mono l3).mono l4) r4 p5)
    | false => exact p4 F3 μ3 H3 (Le.refl _ _) R3 _ (.v _)
  · exact p3.elim
theorem td_chain {op op' : CmpOp} {r r' : R2} {g g' : O → O → M D} {e : Expr} {tc : TE} {dc : M O} (h : CmpR X W op r g) (h' : CmpR X W op' r' g') (ha : ED X W a ta da) (hb : ED X W b tb db) (hc : ED X W e tc dc)
    (hm : lastMarks [op, op'] [b, e] = false := by rfl) : TD X W (.Compare a [op, op'] [b, e] pos) (tTest (tChain r r' ta tb tc)) (M.bind (dChain g g' da db dc) gBool) :=
  ⟨pt_chain h.op h'.op ha.pe hb.pe hc.pe hm, fun Z F μ c σ H Q R p => (dd_chain (pos := pos) h h' ha hb hc hm).ev Z F μ c σ H _ R (p.bind.imp fun x c1 F1 μ1 H1 l1 R1 p1 v1 r1 => by
    unfold gBool at p1
    split at p1
    · cases r1; exact ⟨_, rfl, p1 F1 μ1 H1 (Le.refl _ _) R1⟩
    · exact p1.elim)⟩
theorem td_of {e : Expr} {dd : M D} (hp : PT X e (tTest t)) (hv : EvD X.K W t dd) : TD X W e (tTest t) (M.bind dd gBool) := ⟨hp, fun Z F μ c σ H Q R p => hv Z F μ c σ H _ R (p.bind.imp fun x c1 F1 μ1 H1 l1 R1 p1 v1 r1 => by
    unfold gBool at p1
    split at p1
    · cases r1; exact ⟨_, rfl, p1 F1 μ1 H1 (Le.refl _ _) R1⟩
    · exact p1.elim)⟩

/-! ### and, or, not, if -/
variable {A B : TT} {dA dB : M Bool} {rest : List Expr}
theorem wd_and1 (ha : TD X W a A dA) : WD X W (.BoolOp .And [a] pos) A dA := ⟨pw_and1 ha.pt, ha.ev⟩
theorem wd_or1 (ha : TD X W a A dA) : WD X W (.BoolOp .Or [a] pos) A dA := ⟨pw_or1 ha.pt, ha.ev⟩
omit [TabEnv] in
def dAnd (a b : M Bool) : M Bool := M.bind a fun k => if k = true then b else M.pure false
omit [TabEnv] in
def dOr (a b : M Bool) : M Bool := M.bind a fun k => if k = true then M.pure true else b
omit [TabEnv] in
def dNotT (a : M Bool) : M Bool := M.bind a fun k => M.pure (!k)
theorem wd_and (ha : TD X W a A dA) (hb : WD X W (.BoolOp .And (b :: rest) pos) B dB) : WD X W (.BoolOp .And (a :: b :: rest) pos) (tAnd A B) (dAnd dA dB) :=
  ⟨pw_and ha.pt hb.pw, fun Z F μ c σ H Q R p => ha.ev Z F μ c σ H _ R (p.bind.imp fun k c1 F1 μ1 H1 l1 R1 p1 => by
    cases k with
    | true => exact hb.ev Z F1 μ1 c1 σ H1 Q R1 p1
    | false => exact p1 F1 μ1 H1 (Le.refl _ _) R1)⟩
theorem wd_or (ha : TD X W a A dA) (hb : WD X W (.BoolOp .Or (b :: rest) pos) B dB) : WD X W (.BoolOp .Or (a :: b :: rest) pos) (tOr A B) (dOr dA dB) :=
  ⟨pw_or ha.pt hb.pw, fun Z F μ c σ H Q R p => ha.ev Z F μ c σ H _ R (p.bind.imp fun k c1 F1 μ1 H1 l1 R1 p1 => by
    cases k with
    | true => exact p1 F1 μ1 H1 (Le.refl _ _) R1
    | false => exact hb.ev Z F1 μ1 c1 σ H1 Q R1 p1)⟩
theorem td_w {e : Expr} (h : WD X W e A dA) : TD X W e A dA := ⟨h.pw.pt, h.ev⟩
theorem td_not (ha : TD X W a A dA) : TD X W (.UnaryOp .Not a pos) (tNot A) (dNotT dA) :=
  ⟨pt_not ha.pt, fun Z F μ c σ H Q R p => ha.ev Z F μ c σ H _ R (p.bind.imp fun k c1 F1 μ1 H1 l1 R1 p1 => p1 F1 μ1 H1 (Le.refl _ _) R1)⟩
omit [TabEnv] in
/-- as values: all but the last True or False -/
def gBoolO (o : O) : M Bool := fun c => match o with
  | .d (.v (.bl b)) => .ok b c
  | _ => .no
theorem gBoolO_ok {K : PySem.W.Frag} {Z F : Hp} {μ : List Addr} {c : Stt} {σ : St} {H : Hp} {v : V} {o : O} {P : Bool → Stt → Hp → List Addr → Hp → Prop} (R : Rel K Z F μ c σ H) (r : RepO K F μ σ v o) (p : Post K Z F μ σ W (gBoolO o c) P) : ∃ b, v = .bl b ∧ P b c F μ H := by
  unfold gBoolO at p
  split at p
  · cases r with | d r => cases r; exact ⟨_, rfl, p F μ H (Le.refl _ _) R⟩
  · exact p.elim
theorem ed_one {op : BoolOp} (h : ED X W a ta da) : ED X W (.BoolOp op [a] pos) ta da := ⟨pe_one h.pe, h.ev⟩
omit [TabEnv] in
def dAndV (a b : M O) : M O := M.bind (M.bind a gBoolO) fun k => if k = true then b else M.pure (.d (.v (.bl false)))
omit [TabEnv] in
def dOrV (a b : M O) : M O := M.bind (M.bind a gBoolO) fun k => if k = true then M.pure (.d (.v (.bl true))) else b
omit [TabEnv] in
def dNotV (a : M O) : M O := M.bind (M.bind a gBoolO) fun k => M.pure (.d (.v (.bl (!k))))
theorem ed_and (ha : ED X W a ta da) (hb : ED X W (.BoolOp .And (b :: rest) pos) tb db) : ED X W (.BoolOp .And (a :: b :: rest) pos) (tAndV ta tb) (dAndV da db) :=
  ⟨pe_and ha.pe hb.pe, fun Z F μ c σ H Q R p => ha.ev Z F μ c σ H _ R (p.bind.bind.imp fun o c1 F1 μ1 H1 l1 R1 p1 v1 r1 => by
    obtain ⟨k, rfl, p2⟩ := gBoolO_ok R1 r1 p1
    refine ⟨k, rfl, ?_⟩
    cases k with
    | true => exact hb.ev Z F1 μ1 c1 σ H1 Q R1 p2
    | false => exact p2 F1 μ1 H1 (Le.refl _ _) R1 _ (.d (.v _)))⟩
theorem ed_or (ha : ED X W a ta da) (hb : ED X W (.BoolOp .Or (b :: rest) pos) tb db) : ED X W (.BoolOp .Or (a :: b :: rest) pos) (tOrV ta tb) (dOrV da db) :=
  ⟨pe_or ha.pe hb.pe, fun Z F μ c σ H Q R p => ha.ev Z F μ c σ H _ R (p.bind.bind.imp fun o c1 F1 μ1 H1 l1 R1 p1 v1 r1 => by
    obtain ⟨k, rfl, p2⟩ := gBoolO_ok R1 r1 p1
    refine ⟨k, rfl, ?_⟩
    cases k with
    | true => exact p2 F1 μ1 H1 (Le.refl _ _) R1 _ (.d (.v _))
    | false => exact hb.ev Z F1 μ1 c1 σ H1 Q R1 p2)⟩
theorem ed_not (ha : ED X W a ta da) : ED X W (.UnaryOp .Not a pos) (tNotV ta) (dNotV da) :=
  ⟨pe_not ha.pe, fun Z F μ c σ H Q R p => ha.ev Z F μ c σ H _ R (p.bind.bind.imp fun o c1 F1 μ1 H1 l1 R1 p1 v1 r1 => by
    obtain ⟨k, rfl, p2⟩ := gBoolO_ok R1 r1 p1
    exact ⟨k, rfl, p2 F1 μ1 H1 (Le.refl _ _) R1 _ (.d (.v _))⟩)⟩
omit [TabEnv] in
def dIf (t : M Bool) (a b : M O) : M O := M.bind t fun k => if k = true then a else b
theorem ed_if {e : Expr} (hc : TD X W e A dA) (ha : ED X W a ta da) (hb : ED X W b tb db) : ED X W (.IfExp e a b pos) (tIf A ta tb) (dIf dA da db) :=
  ⟨pe_ifExp hc.pt ha.pe hb.pe, fun Z F μ c σ H Q R p => hc.ev Z F μ c σ H _ R (p.bind.imp fun k c1 F1 μ1 H1 l1 R1 p1 => by
    cases k with
    | true => exact ha.ev Z F1 μ1 c1 σ H1 Q R1 p1
    | false => exact hb.ev Z F1 μ1 c1 σ H1 Q R1 p1)⟩

/-! ### rows of operands, displays, calls -/
variable {es : List Expr} {tr : TA} {dr : M (List D)}
omit [TabEnv] in
def dNil : M (List D) := M.pure []
omit [TabEnv] in
def dCons (dx : M D) (dr : M (List D)) : M (List D) := M.bind dx fun x => M.bind dr fun xs => M.pure (x :: xs)
theorem ad_nil : AD X W [] tNil dNil := ⟨pa_nil, fun Z F μ c σ H Q R p => p F μ H (Le.refl _ _) R [] .nil⟩
theorem ad_cons {dx : M D} (ha : DD X W a ta dx) (hr : AD X W es tr dr) (hs : starEach (a :: es) X.env = (false, eval a X.env) :: starEach es X.env := by rfl) : AD X W (a :: es) (tCons ta tr) (dCons dx dr) :=
  ⟨pa_cons ha.pe hr.pa hs, fun Z F μ c σ H Q R p => ha.ev Z F μ c σ H _ R (p.bind.imp fun x c1 F1 μ1 H1 l1 R1 p1 v1 r1 => hr.ev Z F1 μ1 c1 σ H1 _ R1 (p1.bind.imp fun xs c2 F2 μ2 H2 l2 R2 p2 vs rs => p2 F2 μ2 H2 (Le.refl _ _) R2 _ (.cons (r1.mono l2) rs)))⟩
omit [TabEnv] in
def dTup (dr : M (List D)) : M D := M.bind dr fun ds c => if ds.length ≤ 1000000 then .ok (.tup ds) c else .no
theorem dd_tup {k : Nat} (h : AD X W es tr dr) : DD X W (.Tuple es k pos) (tTup tr) (dTup dr) :=
  ⟨pe_tup h.pa, fun Z F μ c σ H Q R p => h.ev Z F μ c σ H _ R (p.bind.imp fun ds c1 F1 μ1 H1 l1 R1 p1 vs rs => by
    split at p1
    · next hz =>
      refine ⟨small6 (by rw [rs.length]; exact hz), fun q hq => ?_⟩
      obtain ⟨R2, l2⟩ := R1.new (o := .tup vs) hq
      exact p1 _ _ _ l2 R2 _ (.tup (.of upd_same) (rs.mono l2))
    · exact p1.elim)⟩
omit [TabEnv] in
def dLst (dr : M (List D)) : M (List D) := M.bind dr fun ds c => if ds.length ≤ 1000000 then .ok ds c else .no
theorem en_lst (h : AD X W es tr dr) : EN X W (.List es pos) (tLst tr) (dLst dr) :=
  ⟨pe_lst h.pa, fun Z F μ c σ H Q R p => h.ev Z F μ c σ H _ R (p.bind.imp fun ds c1 F1 μ1 H1 l1 R1 p1 vs rs => by
    split at p1
    · next hz =>
      refine ⟨small6 (by rw [rs.length]; exact hz), fun q hq => ?_⟩
      exact p1 F1 μ1 _ (Le.refl _ _) (R1.up (same_new hq)) q vs upd_same (R1.nob hq) rs
    · exact p1.elim)⟩

omit [TabEnv] in
/-- what a def computes -/
inductive RF where
  | ok (d : D) (S : List Cell)
  | ex (e : Exn) (S : List Cell)
  | no
def PostF (K : PySem.W.Frag) (Z F : Hp) (μ : List Addr) (r : RF) (Q : VK) (E : XK) : Prop := match r with
  | .ok d S => ∀ v F' μ' H', Le F μ F' μ' → Rel K Z F' μ' ⟨[], S⟩ [] H' → Rep K F' μ' v d → Q v H'
  | .ex e S => ∀ cls od F' μ' H', Le F μ F' μ' → Rel K Z F' μ' ⟨[], S⟩ [] H' → RepX K F' μ' cls od e → E cls od H'
  | .no => False
omit [TabEnv] in
abbrev G := List D → List Cell → RF
/-- the promise of a def that computes g of n operands -/
def spG (K : PySem.W.Frag) (g : G) : Sp := fun vs H Q E => ∃ Z F μ S ds, Rel K Z F μ ⟨[], S⟩ [] H ∧ Reps K F μ vs ds ∧ PostF K Z F μ (g ds S) Q E
omit [TabEnv] in
/-- the caller's own objects are lent to nobody -/
noncomputable def lend (Z : Hp) (c : Stt) (σ : St) (H : Hp) : Hp := fun a => open Classical in if (∃ (i : Nat) (m : Cell), c.r[i]? = some (.own m) ∧ σ[i]? = some (some (.ref a))) then H a else Z a
theorem lend_of {K : PySem.W.Frag} {Z F : Hp} {μ : List Addr} {c : Stt} {σ : St} {H : Hp} (R : Rel K Z F μ c σ H) : Rel K (lend Z c σ H) F μ ⟨[], c.S⟩ [] H := by
  have yes : ∀ a, (∃ (i : Nat) (m : Cell), c.r[i]? = some (.own m) ∧ σ[i]? = some (some (.ref a))) → F a = none := fun a ⟨i, m, q, e⟩ => by
    obtain ⟨a', e1, c1, g1⟩ := R.own i m q
    rw [e] at e1; cases e1
    exact c1.f g1
  refine { ex := R.ex, exz := fun a o e => ?_, fz := fun a o e => ?_, len := rfl, slot := fun i x e => by simp at e, own := fun i x e => by simp at e, dis := fun i j a m m' e => by simp at e, lm := R.lm, sto := fun n a m e1 e2 => ?_, dst := fun i n a m e => by simp at e, ndm := R.ndm, tab := R.tab }
  · unfold lend at e
    split at e
    · exact e
    · exact R.exz a o e
  · unfold lend at e
    split at e
    · next h => exact yes a h
    · exact R.fz a o e
  · have c1 := R.sto n a m e1 e2
    refine ⟨?_, c1.f, c1.o, c1.l⟩
    unfold lend
    rw [if_neg]
    · exact c1.z
    · rintro ⟨i, m', q, e⟩
      exact R.dst i n a m' q e e1
/-- behind the call -/
theorem lend_back {K : PySem.W.Frag} {Z F F' : Hp} {μ μ' : List Addr} {c : Stt} {σ : St} {H H' : Hp} {S' : List Cell} (R : Rel K Z F μ c σ H) (le : Le F μ F' μ') (R' : Rel K (lend Z c σ H) F' μ' ⟨[], S'⟩ [] H') : Rel K Z F' μ' ⟨c.r, S'⟩ σ H' := by
  have mine : ∀ {a : Addr} {i : Nat} {m : Cell}, c.r[i]? = some (.own m) → σ[i]? = some (some (.ref a)) → lend Z c σ H a = H a := fun {a i m} q e => by
    unfold lend
    rw [if_pos ⟨i, m, q, e⟩]
  have zs : ∀ a o, Z a = some o → lend Z c σ H a = some o := fun a o e => by
    unfold lend
    split
    · next h =>
      obtain ⟨i, m, q, e1⟩ := h
      obtain ⟨a', e2, c1, _⟩ := R.own i m q
      rw [e1] at e2; cases e2
      rw [c1.z] at e; cases e
    · exact e
  refine { ex := R'.ex, exz := fun a o e => R'.exz a o (zs a o e), fz := fun a o e => R'.fz a o (zs a o e), len := R.len, slot := fun i x e => (let ⟨v, e1, e2⟩ := R.slot i x e; ⟨v, e1, e2.mono le⟩), own := fun i m q => ?_, dis := R.dis, lm := R'.lm, sto := fun n a m e1 e2 => ?_, dst := fun i n a m q e e1 => ?_, ndm := R'.ndm, tab := R'.tab }
  · obtain ⟨a, e, c1, g1⟩ := R.own i m q
    obtain ⟨o, e1, e2⟩ := c1.o
    have l := mine q e
    rw [e1] at l
    exact ⟨a, e, ⟨c1.z, fun _ => R'.fz a o l, ⟨o, R'.exz a o l, e2.mono le⟩, fun g => (lkE g1 g).elim⟩, g1⟩
  · have c1 := R'.sto n a m e1 e2
    refine ⟨?_, c1.f, c1.o, c1.l⟩
    cases hz : Z a with
    | none => rfl
    | some o =>
      have := zs a o hz
      rw [c1.z] at this; cases this
  · obtain ⟨a', e', c1, g1⟩ := R.own i m q
    rw [e] at e'; cases e'
    obtain ⟨o, e2, _⟩ := c1.o
    have l := mine q e
    rw [e2] at l
    have hn : n < S'.length := by
      have h1 : μ'.length = S'.length := R'.lm
      rw [← h1]
      exact (List.getElem?_eq_some_iff.mp e1).1
    have := (R'.sto n a _ e1 (List.getElem?_eq_getElem hn)).z
    rw [l] at this; cases this
omit [TabEnv] in
/-- what a caller's wish about exceptions takes -/
def Pol (X : Cx) (W : WX) : Prop := ∀ σ, PassesAt (L2N.CX X.prog X.w) X σ (WE W σ)
omit [TabEnv] in
theorem pol_of {X : Cx} {W : WX} (tk : L2N.Takes X W) : Pol X W := fun σ => L2N.passAt tk σ
omit [TabEnv] in
abbrev W0 : WX := fun _ _ _ _ => False
omit [TabEnv] in
theorem pol0 {X : Cx} : Pol X W0 := fun σ pins H s e s' I c => by
  obtain ⟨_, _, _, _, _, _, _, _, _, _, _, _, z⟩ := c
  exact z.elim
omit [TabEnv] in
def ofF (c : Stt) : RF → R D
  | .ok d S => .ok d ⟨c.r, S⟩
  | .ex e S => .ex e ⟨c.r, S⟩
  | .no => .no
omit [TabEnv] in
def dCall (g : G) (dr : M (List D)) : M D := M.bind dr fun ds c => ofF c (g ds c.S)
theorem sp_call {K : PySem.W.Frag} {Z F : Hp} {μ : List Addr} {c : Stt} {σ : St} {H : Hp} {g : G} {ds : List D} {vs : List V} {Q : VK} (R : Rel K Z F μ c σ H) (rs : Reps K F μ vs ds)
    (p : Post K Z F μ σ W (ofF c (g ds c.S)) (fun x _ F' μ' H' => ∀ v, Rep K F' μ' v x → Q v H')) : spG K g vs H Q (WE W σ) := by
  refine ⟨lend Z c σ H, F, μ, c.S, ds, lend_of R, rs, ?_⟩
  cases e : g ds c.S with
  | ok d S => rw [e] at p; exact fun v F' μ' H' le R' rv => p F' μ' H' le (lend_back R le R') v rv
  | ex x S => rw [e] at p; exact fun cls od F' μ' H' le R' rv => p cls od F' μ' H' le (lend_back R le R') rv
  | no => rw [e] at p; exact p.elim
theorem dd_call {k : Nat} {f : Addr} {fd : FuncData} {ps : List Str} {g : G} {x : Str} {p : Pos} (Fk : FnOk X.prog X.w X.K X.mg X.base (L2N.CX X.prog X.w) k f fd ps (spG X.K g)) (hr : Room k X.A) (hg : Gl X x) (hm : X.mg x = some (.ref f)) (hk : PySem.W.keepIn X.K (.ref f) = true) (hb : Binds X.K fd ps []) (hx : Pol X W)
    (ha : AD X W (a :: es) tr dr)
    (hdb : (x == ("__debug__" : Str)) = false := by decide) (he : starEach (a :: es) X.env = (false, eval a X.env) :: starEach es X.env := by rfl) (hpl : (backTo pos (starEach es X.env)).any (·.1) = false := by rfl) :
    DD X W (.Call (.Name x p) (a :: es) [] pos) (tCallS (spG X.K g) (WE W) tr) (dCall g dr) :=
  ⟨pe_callS Fk hr hg hm hk hb hx ha.pa hdb he hpl, fun Z F μ c σ H Q R p => ha.ev Z F μ c σ H _ R (p.bind.imp fun ds c1 F1 μ1 H1 l1 R1 p1 vs rs => sp_call R1 rs p1)⟩
end
omit [TabEnv] in
/-- a def by its body -/
theorem fun_ok {CX : CXT} {P : Program} {w : World} {K : PySem.W.Frag} {mg : Str → Option Value} {base : Heap} {x qual : Str} {st : Stmt} {f : Addr} {fd : FuncData} {N ps : List Str} {k : Nat} {sp : Sp} (F : Fun K x qual st f fd) (S : FnScope N ps (defScope st)) (len : ∀ vs H Q E, sp vs H Q E → vs.length = ps.length)
    (body : ∀ (cdv : Value) (A : Around) (outer : List Env) (s : Shared) (H : Hp) (vs : List V) (Q : VK) (E : XK), Room k (A.deeper (PyProof.Rows.envOfC qual (defScope st) s.heap.objs.size f cdv)) → sp vs H Q E →
      ∃ t, PSs (cxOf CX P w K mg base N qual (defScope st) f cdv A outer s H E) (defBody st) t ∧ t { nx := fun _ H' => Q .non H', rt := Q } (start N vs) H) : FnOk P w K mg base CX (k + 1) f fd ps sp := by
  obtain ⟨oc, od, kV, doc, pm, an, cdv, ct, osl, rfl, lk, hcd⟩ := F.ex
  exact fn_of lk hcd S len (body cdv)
end My

set_option Elab.async false
set_option linter.all false
set_option maxRecDepth 100000
set_option maxHeartbeats 4000000
/-! F5: statements, loops, comprehensions, a def's promise. -/
namespace My
open PySem L2
variable [TabEnv]

omit [TabEnv] in
/-- nothing is raised here -/
def M.ne {α : Type} (m : M α) : M α := fun c => match m c with
  | .ex _ _ => .no
  | r => r
omit [TabEnv] in
inductive Fl where
  | nx
  | rt (d : D)
  | bk
  | ct
def PostS (K : PySem.W.Frag) (Z F : Hp) (μ : List Addr) (W : WX) (r : R Fl) (D : Ends) : Prop := match r with
  | .ok .nx c => ∀ σ' F' μ' H', Le F μ F' μ' → Rel K Z F' μ' c σ' H' → D.nx σ' H'
  | .ok (.rt d) c => ∀ v σ' F' μ' H', Le F μ F' μ' → Rel K Z F' μ' c σ' H' → Rep K F' μ' v d → D.rt v H'
  | .ok .bk c => ∀ σ' F' μ' H', Le F μ F' μ' → Rel K Z F' μ' c σ' H' → D.bk σ' H'
  | .ok .ct c => ∀ σ' F' μ' H', Le F μ F' μ' → Rel K Z F' μ' c σ' H' → D.ct σ' H'
  | .ex e c => ∀ cls od σ' F' μ' H', Le F μ F' μ' → Rel K Z F' μ' c σ' H' → RepX K F' μ' cls od e → W cls od σ' H'
  | .no => False
theorem PostS.le {K : PySem.W.Frag} {Z F F' : Hp} {μ μ' : List Addr} {W : WX} {r : R Fl} {D : Ends} (le : Le F μ F' μ') (h : PostS K Z F μ W r D) : PostS K Z F' μ' W r D := by
  cases r with
  | ok a c =>
    cases a with
    | nx => exact fun σ F2 μ2 H2 l r => h σ F2 μ2 H2 (le.trans l) r
    | rt d => exact fun v σ F2 μ2 H2 l r x => h v σ F2 μ2 H2 (le.trans l) r x
    | bk => exact fun σ F2 μ2 H2 l r => h σ F2 μ2 H2 (le.trans l) r
    | ct => exact fun σ F2 μ2 H2 l r => h σ F2 μ2 H2 (le.trans l) r
  | ex e c => exact fun cls od σ F2 μ2 H2 l r x => h cls od σ F2 μ2 H2 (le.trans l) r x
  | no => exact h
def StS (K : PySem.W.Frag) (W : WX) (ts : TS) (ds : M Fl) : Prop := ∀ (Z F : Hp) (μ : List Addr) (c : Stt) (σ : St) (H : Hp) (D : Ends), Rel K Z F μ c σ H → PostS K Z F μ W (ds c) D → ts D σ H
structure SD (X : Cx) (W : WX) (st : Stmt) (t : TS) (d : M Fl) : Prop where
  ps : PS X st t
  ev : StS X.K W t d
structure BD (X : Cx) (W : WX) (st : List Stmt) (t : TS) (d : M Fl) : Prop where
  ps : PSs X st t
  ev : StS X.K W t d
/-- behind an expression of a statement -/
theorem PostS.bind {K : PySem.W.Frag} {Z F : Hp} {μ : List Addr} {W : WX} {α : Type} {m : M α} {f : α → M Fl} {c : Stt} {D : Ends} {σ : St} (h : PostS K Z F μ W (M.bind m f c) D) : Post K Z F μ σ W (m c) (fun a c' F' μ' H' => PostS K Z F' μ' W (f a c') D) := by
  unfold M.bind at h
  cases e : m c with
  | ok a c' => rw [e] at h; exact fun F2 μ2 H2 l r => PostS.le l h
  | ex x c' => rw [e] at h; exact fun cls od F' μ' H' l r x => h cls od σ F' μ' H' l r x
  | no => rw [e] at h; exact h

/-! ### targets -/
omit [TabEnv] in
theorem wipe_set {σ : St} {j : Nat} {y : Option V} : ∀ {us : List Nat}, j ∈ us → wipe (σ.set j y) us = wipe σ us
  | [], h => by simp at h
  | u :: us, h => by
    unfold wipe
    by_cases hj : j ∈ us
    · rw [wipe_set hj]
    · have e : j = u := by
        rcases List.mem_cons.mp h with e | e
        · exact e
        · exact absurd e hj
      subst e
      have key : ∀ (us : List Nat) (σ : St), (wipe (σ.set j y) us).set j none = (wipe σ us).set j none := by
        intro us
        induction us with
        | nil => intro σ; unfold wipe; rw [List.set_set]
        | cons v vs ih =>
          intro σ
          unfold wipe
          by_cases hv : v = j
          · subst hv
            rw [ih]
          · rw [List.set_comm _ _ hv, List.set_comm _ _ hv, ih]
      exact key us σ
def EvG (K : PySem.W.Frag) (vs : List Nat) (g : TG) (dg : D → M Unit) : Prop := ∀ (Z F : Hp) (μ : List Addr) (c : Stt) (σ : St) (H : Hp) (Q : St → Hp → Prop) (v : V) (x : D), Rel K Z F μ c σ H → Rep K F μ v x →
  (∃ c', dg x c = .ok () c' ∧ ∀ σ', Rel K Z F μ c' σ' H → (∀ us, (∀ j ∈ vs, j ∈ us) → wipe σ' us = wipe σ us) → Q σ' H) → g v σ H Q
def EvGs (K : PySem.W.Frag) (vs : List Nat) (g : TGs) (dg : List D → M Unit) : Prop := ∀ (Z F : Hp) (μ : List Addr) (c : Stt) (σ : St) (H : Hp) (Q : St → Hp → Prop) (us : List V) (xs : List D), Rel K Z F μ c σ H → Reps K F μ us xs →
  (∃ c', dg xs c = .ok () c' ∧ ∀ σ', Rel K Z F μ c' σ' H → (∀ us, (∀ j ∈ vs, j ∈ us) → wipe σ' us = wipe σ us) → Q σ' H) → g us σ H Q
structure GD (X : Cx) (tg : Expr) (vs : List Nat) (g : TG) (d : D → M Unit) : Prop where
  pg : PG X tg g
  ev : EvG X.K vs g d
structure GDs (X : Cx) (tg : List Expr) (vs : List Nat) (g : TGs) (d : List D → M Unit) : Prop where
  pg : PGs X tg g
  ev : EvGs X.K vs g d
omit [TabEnv] in
def dName (i : Nat) (x : D) : M Unit := fun c => .ok () ⟨c.r.set i (.d x), c.S⟩
section
variable {X : Cx} {W : WX} {pos : Pos} {e : Expr} {t : TE}
theorem gd_name {i : Nat} {x : Str} (hN : X.N.Nodup) (hi : X.N[i]? = some x) (hx : Loc X.env.scope x) (hf : X.fn x = true ∨ X.env.scope.names.lookup x = some .local := by first | exact .inl rfl | exact .inr rfl | assumption) : GD X (.Name x pos) [i] (gName i) (dName i) :=
  ⟨pg_name hN hi hx hf, fun Z F μ c σ H Q v x R r ⟨c', e, k⟩ => by
    cases e
    exact k _ (R.setD r) fun us hu => wipe_set (hu i (List.mem_singleton.mpr rfl))⟩
omit [TabEnv] in
def dUnit (xs : List D) : M Unit := fun c => match xs with
  | [] => .ok () c
  | _ => .no
omit [TabEnv] in
def dConsG (dg : D → M Unit) (dr : List D → M Unit) (xs : List D) : M Unit := match xs with
  | x :: r => M.bind (dg x) fun _ => dr r
  | [] => M.no
theorem gds_nil : GDs X [] [] gNil dUnit := ⟨pgs_nil, fun Z F μ c σ H Q us xs R r ⟨c', e, k⟩ => by
  cases r with
  | nil => cases e; exact ⟨rfl, k σ R fun _ _ => rfl⟩
  | cons _ _ => cases e⟩
theorem gds_cons {tg : Expr} {es : List Expr} {v1 v2 : List Nat} {g1 : TG} {g2 : TGs} {d1 : D → M Unit} {d2 : List D → M Unit} (h1 : GD X tg v1 g1 d1) (h2 : GDs X es v2 g2 d2)
    (hs : (assignEach (tg :: es) X.env).map (·.2) = assign tg X.env :: (assignEach es X.env).map (·.2) := by rfl) : GDs X (tg :: es) (v1 ++ v2) (gCons g1 g2) (dConsG d1 d2) :=
  ⟨pgs_cons h1.pg h2.pg hs, fun Z F μ c σ H Q us xs R r ⟨c', e, k⟩ => by
    cases r with
    | nil => cases e
    | cons r1 rr =>
      refine ⟨_, _, rfl, ?_⟩
      unfold dConsG M.bind at e
      dsimp only at e
      cases q : d1 _ c with
      | no => rw [q] at e; cases e
      | ex _ _ => rw [q] at e; cases e
      | ok a c1 =>
        rw [q] at e
        exact h1.ev Z F μ c σ H _ _ _ R r1 ⟨c1, q, fun σ1 R1 w1 => h2.ev Z F μ c1 σ1 H Q _ _ R1 rr ⟨c', e, fun σ2 R2 w2 => k σ2 R2 fun us hu => (w2 us fun j hj => hu j (List.mem_append_right _ hj)).trans (w1 us fun j hj => hu j (List.mem_append_left _ hj))⟩⟩⟩
omit [TabEnv] in
def dTupG (n : Nat) (dr : List D → M Unit) (x : D) : M Unit := fun c => match x with
  | .tup ds => if ds.length = n then dr ds c else .no
  | _ => .no
theorem gd_tup {K : PySem.W.Frag} {es : List Expr} {k n : Nat} {vs : List Nat} {g : TGs} {d : List D → M Unit} (hc : X.calm = true) (h : GDs X es vs g d) (hn : (assignEach es X.env).length = n := by rfl) (hst : (assignEach es X.env).findIdx? (·.1) = none := by rfl) (hK : X.K = K := by rfl) :
    GD X (.Tuple es k pos) vs (gTup K n g) (dTupG n d) := by
  subst hK
  exact ⟨pg_tup hc h.pg hn hst, fun Z F μ c σ H Q v x R r ⟨c', e, k⟩ => by
    unfold dTupG at e
    split at e
    · next ds =>
      split at e
      · next hl =>
        cases r with
        | tup hs rs => exact ⟨_, _, rfl, Same.seqT R.ex hs, by rw [rs.length]; exact hl, h.ev Z F μ c σ H Q _ _ R rs ⟨c', e, k⟩⟩
      · cases e
    · cases e⟩

/-! ### small statements -/
omit [TabEnv] in
def dNx : M Fl := M.pure .nx
theorem bd_nil : BD X W [] tNext dNx := ⟨pss_nil, fun Z F μ c σ H D R p => p σ F μ H (Le.refl _ _) R⟩
omit [TabEnv] in
def dSeq (a b : M Fl) : M Fl := M.bind a fun f => match f with
  | .nx => b
  | f => M.pure f
theorem bd_cons {st : Stmt} {rest : List Stmt} {t u : TS} {a b : M Fl} (h1 : SD X W st t a) (h2 : BD X W rest u b) : BD X W (st :: rest) (tSeq t u) (dSeq a b) :=
  ⟨pss_cons h1.ps h2.ps, fun Z F μ c σ H D R p => h1.ev Z F μ c σ H _ R (by
    unfold dSeq M.bind at p
    cases e : a c with
    | ok f c1 =>
      rw [e] at p
      cases f with
      | nx => exact fun σ' F' μ' H' l R' => h2.ev Z F' μ' c1 σ' H' D R' (p.le l)
      | rt d => exact p
      | bk => exact p
      | ct => exact p
    | ex x c1 => rw [e] at p; exact p
    | no => rw [e] at p; exact p)⟩
theorem bd_one {st : Stmt} {t : TS} {a : M Fl} (h : SD X W st t a) : BD X W [st] t a := ⟨pss_one h.ps, h.ev⟩
theorem sd_pass : SD X W (.Pass pos) tNext dNx := ⟨ps_pass, fun Z F μ c σ H D R p => p σ F μ H (Le.refl _ _) R⟩
theorem sd_break : SD X W (.Break pos) tBreak (M.pure .bk) := ⟨ps_break, fun Z F μ c σ H D R p => p σ F μ H (Le.refl _ _) R⟩
theorem sd_continue : SD X W (.Continue pos) tCont (M.pure .ct) := ⟨ps_continue, fun Z F μ c σ H D R p => p σ F μ H (Le.refl _ _) R⟩
theorem sd_doc {x : Str} {j : Nat} {pos' : Pos} : SD X W (.Expr (.Constant (.str x) j pos) pos') tNext dNx := ⟨ps_doc, fun Z F μ c σ H D R p => p σ F μ H (Le.refl _ _) R⟩
omit [TabEnv] in
def dDrop {α : Type} (m : M α) : M Fl := M.bind m fun _ => M.pure .nx
theorem sd_expr {d : M O} (h : ED X W e t d) (hs : swapsWith e none pos.line X.env = pure false := by rfl) : SD X W (.Expr e pos) (tDrop t) (dDrop d) :=
  ⟨ps_expr h.pe hs, fun Z F μ c σ H D R p => h.ev Z F μ c σ H _ R (p.bind.imp fun o c1 F1 μ1 H1 l1 R1 p1 v r => p1 σ F1 μ1 H1 (Le.refl _ _) R1)⟩
omit [TabEnv] in
def dRet (m : M D) : M Fl := M.bind m fun d => M.pure (.rt d)
theorem sd_ret {d : M D} (h : DD X W e t d) : SD X W (.Return (some e) pos) (tRet t) (dRet d) :=
  ⟨ps_ret h.pe, fun Z F μ c σ H D R p => h.ev Z F μ c σ H _ R (p.bind.imp fun x c1 F1 μ1 H1 l1 R1 p1 v r => p1 v σ F1 μ1 H1 (Le.refl _ _) R1 r)⟩
theorem sd_retN : SD X W (.Return none pos) tRetN (M.pure (.rt (.v .non))) := ⟨ps_retN, fun Z F μ c σ H D R p => p _ σ F μ H (Le.refl _ _) R (.v _)⟩
omit [TabEnv] in
def dIfS (b : M Bool) (x y : M Fl) : M Fl := M.bind b fun k => if k = true then x else y
theorem sd_if {tc : TT} {t u : TS} {db : M Bool} {x y : M Fl} {as bs : List Stmt} (hc : TD X W e tc db) (ha : BD X W as t x) (hb : BD X W bs u y) : SD X W (.If e as bs pos) (tIfS tc t u) (dIfS db x y) :=
  ⟨ps_if hc.pt ha.ps hb.ps, fun Z F μ c σ H D R p => hc.ev Z F μ c σ H _ R (p.bind.imp fun k c1 F1 μ1 H1 l1 R1 p1 => by
    cases k with
    | true => exact ha.ev Z F1 μ1 c1 σ H1 D R1 p1
    | false => exact hb.ev Z F1 μ1 c1 σ H1 D R1 p1)⟩
theorem sd_never {st : Stmt} : SD X W st tNever M.no := ⟨ps_never, fun Z F μ c σ H D R p => p⟩
omit [TabEnv] in
/-- name = value -/
def dSet (i : Nat) (m : M D) : M Fl := M.bind m fun x => M.bind (dName i x) fun _ => M.pure .nx
theorem sd_set {i : Nat} {x : Str} {pos' : Pos} {d : M D} (hN : X.N.Nodup) (hi : X.N[i]? = some x) (hx : Loc X.env.scope x) (h : DD X W e t d) (hs : swapsWith e (some (.Name x pos')) pos.line X.env = pure false := by rfl) (hf : X.fn x = true ∨ X.env.scope.names.lookup x = some .local := by first | exact .inl rfl | exact .inr rfl | assumption) :
    SD X W (.Assign [.Name x pos'] e pos) (tAsg t (gName i)) (dSet i d) :=
  ⟨ps_set hN hi hx h.pe hs hf, fun Z F μ c σ H D R p => h.ev Z F μ c σ H _ R (p.bind.imp fun y c1 F1 μ1 H1 l1 R1 p1 v r => p1 _ F1 μ1 H1 (Le.refl _ _) (R1.setD r))⟩
omit [TabEnv] in
/-- name = a new list, which is the name's own -/
def dSetN (i : Nat) (m : M (List D)) : M Fl := M.bind m fun ds c => .ok .nx ⟨c.r.set i (.own (.lst ds)), c.S⟩
theorem ev_setN {K : PySem.W.Frag} {i : Nat} {d : M (List D)} (h : EvN K W t d) : StS K W (tAsg t (gName i)) (dSetN i d) := fun Z F μ c σ H D R p =>
  h Z F μ c σ H _ R (p.bind.imp fun ds c1 F1 μ1 H1 l1 R1 p1 q vs hq n r => p1 _ F1 μ1 H1 (Le.refl _ _) (R1.setOwn hq n.f n.z n.no n.nm (.lst r) trivial))
theorem sd_setN {i : Nat} {x : Str} {pos' : Pos} {d : M (List D)} (hN : X.N.Nodup) (hi : X.N[i]? = some x) (hx : Loc X.env.scope x) (h : EN X W e t d) (hs : swapsWith e (some (.Name x pos')) pos.line X.env = pure false := by rfl) (hf : X.fn x = true ∨ X.env.scope.names.lookup x = some .local := by first | exact .inl rfl | exact .inr rfl | assumption) :
    SD X W (.Assign [.Name x pos'] e pos) (tAsg t (gName i)) (dSetN i d) := ⟨ps_set hN hi hx h.pe hs hf, ev_setN h.ev⟩
/-- target = value -/
theorem sd_asg {tg : Expr} {vs : List Nat} {g : TG} {dg : D → M Unit} {d : M D} (h : DD X W e t d) (hg : GD X tg vs g dg) (hs : swapsWithSole [tg] e pos.line X.env = pure false := by rfl) (hw : swappedStores [tg] e X.env = pure none := by rfl)
    (h1 : (assignEach [tg] X.env).map (·.2) = [assign tg X.env] := by rfl) : SD X W (.Assign [tg] e pos) (tAsg t g) (M.bind d fun x => M.bind (M.ne (dg x)) fun _ => M.pure .nx) :=
  ⟨ps_asg h.pe hg.pg hs hw h1, fun Z F μ c σ H D R p => h.ev Z F μ c σ H _ R (p.bind.imp fun y c1 F1 μ1 H1 l1 R1 p1 v r => by
    unfold M.bind M.ne at p1
    cases q : dg y c1 with
    | no => rw [q] at p1; exact p1.elim
    | ex x c2 => rw [q] at p1; exact p1.elim
    | ok a c2 => rw [q] at p1; exact hg.ev Z F1 μ1 c1 σ H1 _ v y R1 r ⟨c2, q, fun σ' R' _ => p1 σ' F1 μ1 H1 (Le.refl _ _) R'⟩)⟩

/-! ### op= -/
omit [TabEnv] in
def dAug (i : Nat) (g : O → O → M D) (de : M O) : M Fl := fun c => match c.r[i]? with
  | some (.d x) => M.bind de (fun o => M.bind (g (.d x) o) fun y => M.bind (dName i y) fun _ => M.pure .nx) c
  | _ => .no
theorem sd_aug {i : Nat} {x : Str} {op : Operator} {ti : TIp} {g : O → O → M D} {pos' : Pos} {de : M O} (hN : X.N.Nodup) (hi : X.N[i]? = some x) (hx : Loc X.env.scope x) (ho : PIp X op ti) (hr : R2S X.K W ti g) (h : ED X W e t de) (hf : X.fn x = true ∨ X.env.scope.names.lookup x = some .local := by first | exact .inl rfl | exact .inr rfl | assumption) :
    SD X W (.AugAssign (.Name x pos') op e pos) (tAug i t ti) (dAug i g de) :=
  ⟨ps_aug hN hi hx h.pe ho hf, fun Z F μ c σ H D R p => by
    unfold dAug at p
    split at p
    · next d hd =>
      obtain ⟨v, e1, e2⟩ := R.slot i d hd
      exact ⟨v, e1, h.ev Z F μ c σ H _ R (p.bind.imp fun o c1 F1 μ1 H1 l1 R1 p1 v1 r1 => hr Z F1 μ1 c1 σ H1 _ v v1 _ o R1 (.d (e2.mono l1)) r1 (p1.bind.imp fun y c2 F2 μ2 H2 l2 R2 p2 v2 r2 => p2 _ F2 μ2 H2 (Le.refl _ _) (R2.setD r2)))⟩
    · exact p.elim⟩
omit [TabEnv] in
theorem ip_addS : PIp X .Add (fun x y H Q => ∃ i j, x = .str i ∧ y = .str j ∧ i.length + j.length ≤ sizeLine ∧ Q (.str (i ++ j)) H) := fun pins s σ H x y v u Q I rx ry h => iop_add_str pins s σ H x y v u Q I rx ry h
theorem r2_ipadd {K : PySem.W.Frag} : R2S K W (ipI fun i j => i + j) (gI fun i j => some (.int (i + j))) := r2_int fun i j v H Q e q => ⟨i, j, rfl, rfl, by cases e; exact q⟩
theorem r2_ipsub {K : PySem.W.Frag} : R2S K W (ipI fun i j => i - j) (gI fun i j => some (.int (i - j))) := r2_int fun i j v H Q e q => ⟨i, j, rfl, rfl, by cases e; exact q⟩
omit [TabEnv] in
/-- a, b = x, y -/
def dPar (i j : Nat) (dr : M (List D)) : M Fl := M.bind dr fun ds c => match ds with
  | [x, y] => .ok .nx ⟨(c.r.set i (.d x)).set j (.d y), c.S⟩
  | _ => .no
theorem sd_par {i j : Nat} {x y : Str} {a b : Expr} {ta : TA} {px py pt : Pos} {kt k2 : Nat} {pt2 : Pos} {dr : M (List D)} (hc : X.calm = true) (hN : X.N.Nodup) (hi : X.N[i]? = some x) (hj : X.N[j]? = some y) (hij : i ≠ j)
    (hx : X.env.scope.names.lookup x = some .local) (hy : X.env.scope.names.lookup y = some .local) (ha : AD X W [a, b] ta dr)
    (hw : swappedStores [.Tuple [.Name x px, .Name y py] kt pt] (.Tuple [a, b] k2 pt2) X.env = pure (some [x, y]))
    (hs : swapsWithSole [.Tuple [.Name x px, .Name y py] kt pt] (.Tuple [a, b] k2 pt2) pos.line X.env = pure false := by rfl) :
    SD X W (.Assign [.Tuple [.Name x px, .Name y py] kt pt] (.Tuple [a, b] k2 pt2) pos) (tPar i j ta) (dPar i j dr) :=
  ⟨ps_par hc hN hi hj hij hx hy ha.pa hw hs, fun Z F μ c σ H D R p => ha.ev Z F μ c σ H _ R (p.bind.imp fun ds c1 F1 μ1 H1 l1 R1 p1 vs r => by
    split at p1
    · cases r with
      | cons r1 r =>
        cases r with
        | cons r2 r =>
          cases r
          exact ⟨_, _, rfl, p1 _ F1 μ1 H1 (Le.refl _ _) ((R1.setD r1).setD r2)⟩
    · exact p1.elim)⟩

/-! ### while -/
omit [TabEnv] in
def itW (dc : M Bool) (db : M Fl) : Nat → M Fl
  | 0 => M.no
  | n + 1 => M.bind dc fun k => if k = true then M.bind db fun f => match f with
      | .nx => itW dc db n
      | .ct => itW dc db n
      | .bk => M.pure .nx
      | .rt d => M.pure (.rt d)
    else M.pure .nx
omit [TabEnv] in
theorem itW_mono (dc : M Bool) (db : M Fl) : ∀ (n : Nat) (c : Stt), itW dc db n c ≠ .no → itW dc db (n + 1) c = itW dc db n c
  | 0, c, h => absurd rfl h
  | n + 1, c, h => by
    unfold itW M.bind at h ⊢
    cases q : dc c with
    | no => rfl
    | ex _ _ => rfl
    | ok k c1 =>
      rw [q] at h
      dsimp only at h ⊢
      cases k with
      | false => rfl
      | true =>
        rw [if_pos rfl] at h ⊢
        rw [if_pos rfl]
        cases q2 : db c1 with
        | no => rfl
        | ex _ _ => rfl
        | ok f c2 =>
          rw [q2] at h
          cases f with
          | nx => exact itW_mono dc db n c2 h
          | ct => exact itW_mono dc db n c2 h
          | bk => rfl
          | rt d => rfl
omit [TabEnv] in
theorem itW_le {dc : M Bool} {db : M Fl} {n : Nat} {c : Stt} (h : itW dc db n c ≠ .no) : ∀ k, itW dc db (n + k) c = itW dc db n c
  | 0 => rfl
  | k + 1 => by
    have ih := itW_le h k
    rw [← Nat.add_assoc, itW_mono dc db (n + k) c (by rw [ih]; exact h), ih]
open Classical in
omit [TabEnv] in
noncomputable def dWhile (dc : M Bool) (db : M Fl) : M Fl := fun c => if h : ∃ n, itW dc db n c ≠ .no then itW dc db h.choose c else .no
omit [TabEnv] in
theorem dWhile_of {dc : M Bool} {db : M Fl} {n : Nat} {c : Stt} (h : itW dc db n c ≠ .no) : dWhile dc db c = itW dc db n c := by
  have hx : ∃ n, itW dc db n c ≠ .no := ⟨n, h⟩
  unfold dWhile
  rw [dif_pos hx]
  have h2 := hx.choose_spec
  rw [← itW_le h2 n, ← itW_le h hx.choose, Nat.add_comm]
omit [TabEnv] in
theorem dWhile_eq (dc : M Bool) (db : M Fl) : dWhile dc db = M.bind dc fun k => if k = true then M.bind db fun f => match f with
      | .nx => dWhile dc db
      | .ct => dWhile dc db
      | .bk => M.pure .nx
      | .rt d => M.pure (.rt d)
    else M.pure .nx := by
  funext c
  have up : ∀ (n : Nat) (c : Stt), itW dc db (n + 1) c = (M.bind dc fun k => if k = true then M.bind db fun f => match f with
      | .nx => itW dc db n
      | .ct => itW dc db n
      | .bk => M.pure .nx
      | .rt d => M.pure (.rt d)
    else M.pure .nx) c := fun n c => rfl
  by_cases hx : ∃ n, itW dc db n c ≠ .no
  · obtain ⟨n, h⟩ := hx
    rw [dWhile_of h]
    cases n with
    | zero => exact absurd rfl h
    | succ n =>
      rw [up] at h ⊢
      unfold M.bind at h ⊢
      cases q : dc c with
      | no => rfl
      | ex _ _ => rfl
      | ok k c1 =>
        rw [q] at h
        dsimp only at h ⊢
        cases k with
        | false => rfl
        | true =>
          rw [if_pos rfl] at h ⊢
          rw [if_pos rfl]
          cases q2 : db c1 with
          | no => rfl
          | ex _ _ => rfl
          | ok f c2 =>
            rw [q2] at h
            cases f with
            | nx => exact (dWhile_of h).symm
            | ct => exact (dWhile_of h).symm
            | bk => rfl
            | rt d => rfl
  · have hn : ∀ n, itW dc db n c = .no := fun n => Classical.byContradiction fun h => hx ⟨n, h⟩
    have e1 : dWhile dc db c = .no := by unfold dWhile; rw [dif_neg hx]
    rw [e1]
    have h1 := hn 1
    rw [up] at h1
    unfold M.bind at h1 ⊢
    cases q : dc c with
    | no => rfl
    | ex _ _ => rw [q] at h1; cases h1
    | ok k c1 =>
      rw [q] at h1
      dsimp only at h1 ⊢
      cases k with
      | false => cases h1
      | true =>
        rw [if_pos rfl] at h1 ⊢
        cases q2 : db c1 with
        | no => rfl
        | ex _ _ => rw [q2] at h1; cases h1
        | ok f c2 =>
          have go : ∀ n, itW dc db n c2 = .no ∨ (f ≠ .nx ∧ f ≠ .ct) := fun n => by
            by_cases hf : f ≠ .nx ∧ f ≠ .ct
            · exact .inr hf
            · have hn1 := hn (n + 1)
              rw [up] at hn1
              unfold M.bind at hn1
              rw [q] at hn1
              dsimp only at hn1
              rw [if_pos rfl, q2] at hn1
              cases f with
              | nx => exact .inl hn1
              | ct => exact .inl hn1
              | bk => exact .inr ⟨(fun z => by cases z), (fun z => by cases z)⟩
              | rt d => exact .inr ⟨(fun z => by cases z), (fun z => by cases z)⟩
          have none2 : (f = .nx ∨ f = .ct) → dWhile dc db c2 = .no := fun hf => by
            unfold dWhile
            rw [dif_neg]
            rintro ⟨n, h⟩
            rcases go n with g | ⟨g1, g2⟩
            · exact h g
            · rcases hf with rfl | rfl
              · exact g1 rfl
              · exact g2 rfl
          cases f with
          | nx => exact (none2 (.inl rfl)).symm
          | ct => exact (none2 (.inr rfl)).symm
          | bk => rw [q2] at h1; cases h1
          | rt d => rw [q2] at h1; cases h1
theorem sd_while {body : List Stmt} {tc : TT} {tb : TS} {dc : M Bool} {db : M Fl} (hp : PassesOwn (model X.prog X.w) X.A X.env X.xe) (hc : TD X W e tc dc) (hb : BD X W body tb db) : SD X W (.While e body [] pos) (tWhile tc tb) (dWhile dc db) :=
  ⟨ps_while hp hc.pt hb.ps, fun Z F μ c σ H D R p => by
    unfold dWhile at p
    split at p
    · next hx =>
      generalize hx.choose = n at p
      refine ⟨fun m σ' H' => ∃ F' μ' c', Le F μ F' μ' ∧ Rel X.K Z F' μ' c' σ' H' ∧ PostS X.K Z F' μ' W (itW dc db m c') D, ⟨n, F, μ, c, Le.refl _ _, R, p⟩, ?_⟩
      rintro m σ1 H1 ⟨F1, μ1, c1, l1, R1, p1⟩
      cases m with
      | zero => exact p1.elim
      | succ m =>
        refine hc.ev Z F1 μ1 c1 σ1 H1 _ R1 (PostS.bind p1 |>.imp fun k c2 F2 μ2 H2 l2 R2 p2 => ?_)
        cases k with
        | false => exact p2 σ1 F2 μ2 H2 (Le.refl _ _) R2
        | true =>
          refine ⟨fun σ' H' => ∃ F' μ' c', Le F μ F' μ' ∧ Rel X.K Z F' μ' c' σ' H' ∧ PostS X.K Z F' μ' W (itW dc db m c') D, fun σ' H' h => ⟨m, Nat.lt_succ_self m, h⟩, ?_⟩
          refine hb.ev Z F2 μ2 c2 σ1 H2 _ R2 ?_
          rw [if_pos rfl] at p2
          unfold M.bind at p2
          cases q : db c2 with
          | no => rw [q] at p2; exact p2
          | ex x c3 => rw [q] at p2; exact p2
          | ok f c3 =>
            rw [q] at p2
            cases f with
            | nx => exact fun σ' F' μ' H' l R' => ⟨F', μ', c3, (l1.trans l2).trans l, R', p2.le l⟩
            | ct => exact fun σ' F' μ' H' l R' => ⟨F', μ', c3, (l1.trans l2).trans l, R', p2.le l⟩
            | bk => exact p2
            | rt d => exact p2
    · exact p.elim⟩

/-! ### what is walked -/
omit [TabEnv] in
structure Wk (K : PySem.W.Frag) (F : Hp) (μ : List Addr) (J : It) (ds : List D) : Prop where
  go : ∀ i H, Same F H → i < ds.length → J.go i H
  stop : ∀ i H, Same F H → ds.length ≤ i → J.stop i H
  yld : ∀ i H x H', Same F H → i < ds.length → J.yld i H x H' → ∃ d, ds[i]? = some d ∧ ((H' = H ∧ Rep K F μ x d) ∨ ∃ T vs es, H T = none ∧ H' = upd H T (.tup vs) ∧ x = .ref T ∧ d = .tup es ∧ Reps K F μ vs es)
omit [TabEnv] in
theorem Wk.mono {K : PySem.W.Frag} {F F' : Hp} {μ μ' : List Addr} {J : It} {ds : List D} (le : Le F μ F' μ') (h : Wk K F μ J ds) : Wk K F' μ' J ds :=
  ⟨fun i H s => h.go i H (le.ex.trans s), fun i H s => h.stop i H (le.ex.trans s), fun i H x H' s hi y => by
    obtain ⟨d, e, q⟩ := h.yld i H x H' (le.ex.trans s) hi y
    refine ⟨d, e, ?_⟩
    rcases q with ⟨e1, r⟩ | ⟨T, vs, es, h1, h2, h3, h4, r⟩
    · exact .inl ⟨e1, r.mono le⟩
    · exact .inr ⟨T, vs, es, h1, h2, h3, h4, r.mono le⟩⟩
def EvI (K : PySem.W.Frag) (W : WX) (wi : TI) (di : M (List D)) : Prop := ∀ (Z F : Hp) (μ : List Addr) (c : Stt) (σ : St) (H : Hp) (P : It → Hp → Prop), Rel K Z F μ c σ H →
  Post K Z F μ σ W (di c) (fun ds _ F' μ' H' => ∀ J, Wk K F' μ' J ds → P J H') → wi σ H P
structure ID (X : Cx) (W : WX) (tg iter : Expr) (wi : TI) (di : M (List D)) : Prop where
  pi : PI X tg iter wi
  ev : EvI X.K W wi di
omit [TabEnv] in
theorem wk_list {K : PySem.W.Frag} {F : Hp} {μ : List Addr} {a : Addr} {vs : List V} {ds : List D} (h : SqL K F a vs) (r : Reps K F μ vs ds) : Wk K F μ (Itl K a) ds where
  go := fun i H s hi => by
    have hj : i < vs.length := by rw [r.length]; exact hi
    exact ⟨vs, vs[i], s.seq h, List.getElem?_eq_getElem hj⟩
  stop := fun i H s hi => ⟨vs, s.seq h, by rw [r.length]; exact hi⟩
  yld := fun i H x H' s hi ⟨e, y⟩ => by
    obtain ⟨d, e1, r1⟩ := r.getV (y vs (s.seq h))
    exact ⟨d, e1, .inl ⟨e, r1⟩⟩
omit [TabEnv] in
theorem wk_tup {K : PySem.W.Frag} {F : Hp} {μ : List Addr} {a : Addr} {vs : List V} {ds : List D} (h : SqT K F a vs) (r : Reps K F μ vs ds) : Wk K F μ (Itt K a) ds where
  go := fun i H s hi => by
    have hj : i < vs.length := by rw [r.length]; exact hi
    exact ⟨vs, vs[i], Same.seqT s h, List.getElem?_eq_getElem hj⟩
  stop := fun i H s hi => ⟨vs, Same.seqT s h, by rw [r.length]; exact hi⟩
  yld := fun i H x H' s hi ⟨e, y⟩ => by
    obtain ⟨d, e1, r1⟩ := r.getV (y vs (Same.seqT s h))
    exact ⟨d, e1, .inl ⟨e, r1⟩⟩
omit [TabEnv] in
def rngD (lo : Int) (n : Nat) : List D := (List.range n).map fun k => .v (.int (lo + (k : Nat)))
omit [TabEnv] in
theorem wk_range {K : PySem.W.Frag} {F : Hp} {μ : List Addr} {lo : Int} {n : Nat} : Wk K F μ (Itr lo n) (rngD lo n) where
  go := fun i H s hi => by
    have : i < n := by simpa [rngD] using hi
    exact this
  stop := fun i H s hi => by
    have : n ≤ i := by simpa [rngD] using hi
    exact this
  yld := fun i H x H' s hi ⟨e, y⟩ => by
    have hi' : i < n := by simpa [rngD] using hi
    refine ⟨.v (.int (lo + (i : Nat))), ?_, .inl ⟨e, by rw [y]; exact .v _⟩⟩
    unfold rngD
    rw [List.getElem?_map, List.getElem?_range hi']
    rfl
omit [TabEnv] in
def sgnD (x : Str) : List D := x.cps.toList.map fun k => .v (.str ⟨#[k]⟩)
omit [TabEnv] in
theorem wk_str {K : PySem.W.Frag} {F : Hp} {μ : List Addr} {x : Str} : Wk K F μ (Its x) (sgnD x) where
  go := fun i H s hi => by
    have : i < x.cps.size := by simpa [sgnD] using hi
    exact this
  stop := fun i H s hi => by
    have : x.cps.size ≤ i := by simpa [sgnD] using hi
    exact this
  yld := fun i H v H' s hi ⟨e, k, y, hv⟩ => by
    refine ⟨.v (.str ⟨#[k]⟩), ?_, .inl ⟨e, by rw [hv]; exact .v _⟩⟩
    unfold sgnD
    rw [List.getElem?_map, Array.getElem?_toList, y]
    rfl
omit [TabEnv] in
def enuD (ds : List D) : List D := (List.range ds.length).map fun k => .tup [.v (.int (k : Nat)), ds.getD k (.v .non)]
omit [TabEnv] in
theorem wk_enum {K : PySem.W.Frag} {F : Hp} {μ : List Addr} {a : Addr} {vs : List V} {ds : List D} (h : SqL K F a vs) (r : Reps K F μ vs ds) : Wk K F μ (Ite K a) (enuD ds) where
  go := fun i H s hi => by
    have hi : i < ds.length := by simpa [enuD] using hi
    have hj : i < vs.length := by rw [r.length]; exact hi
    exact ⟨vs, vs[i], s.seq h, List.getElem?_eq_getElem hj⟩
  stop := fun i H s hi => ⟨vs, s.seq h, by rw [r.length]; simpa [enuD] using hi⟩
  yld := fun i H v H' s hi ⟨T, x, e1, e2, e3, y⟩ => by
    have hi : i < ds.length := by simpa [enuD] using hi
    obtain ⟨d, e4, r1⟩ := r.getV (y vs (s.seq h))
    refine ⟨_, ?_, .inr ⟨T, _, _, e2, e3, e1, rfl, .cons (.v (.int (i : Nat))) (.cons r1 .nil)⟩⟩
    unfold enuD
    rw [List.getElem?_map, List.getElem?_range hi]
    simp [List.getD, e4]
omit [TabEnv] in
theorem wk_zip {K : PySem.W.Frag} {F : Hp} {μ : List Addr} {a b : Addr} {vs ws : List V} {ds es : List D} (h : SqL K F a vs) (h' : SqL K F b ws) (r : Reps K F μ vs ds) (r' : Reps K F μ ws es) : Wk K F μ (Itz K a b) ((ds.zip es).map fun p => .tup [p.1, p.2]) where
  go := fun i H s hi => by
    have hi : i < ds.length ∧ i < es.length := by simpa [Nat.lt_min] using hi
    have h1 : i < vs.length := by rw [r.length]; exact hi.1
    have h2 : i < ws.length := by rw [r'.length]; exact hi.2
    exact ⟨vs, ws, vs[i], ws[i], s.seq h, s.seq h', List.getElem?_eq_getElem h1, List.getElem?_eq_getElem h2⟩
  stop := fun i H s hi => ⟨vs, ws, s.seq h, s.seq h', by
    rw [r.length, r'.length]
    simp at hi
    omega⟩
  yld := fun i H v H' s hi ⟨T, x, y, e1, e2, e3, y1, y2⟩ => by
    obtain ⟨d1, e4, r1⟩ := r.getV (y1 vs (s.seq h))
    obtain ⟨d2, e5, r2⟩ := r'.getV (y2 ws (s.seq h'))
    refine ⟨.tup [d1, d2], ?_, .inr ⟨T, _, _, e2, e3, e1, rfl, .cons r1 (.cons r2 .nil)⟩⟩
    have e6 : (ds.zip es)[i]? = some (d1, d2) := List.getElem?_zip_eq_some.mpr ⟨e4, e5⟩
    rw [List.getElem?_map, e6]
    rfl
omit [TabEnv] in
/-- a list, a tuple, a text -/
def iAny (K : PySem.W.Frag) (t : TE) : TI := fun σ H P => iList K t σ H P ∨ iTup K t σ H P ∨ iStr t σ H P
omit [TabEnv] in
theorem pi_any {tg l : Expr} {tl : TE} (hl : PE X l tl) : PI X tg l (iAny X.K tl) := by
  refine ⟨fun pins s σ H P I h => ?_⟩
  rcases h with h | h | h
  · exact (pi_list hl).run pins s σ H P I h
  · exact (pi_tup hl).run pins s σ H P I h
  · exact (pi_str hl).run pins s σ H P I h
omit [TabEnv] in
def seqX : D → M (List D)
  | .lst ds => M.pure ds
  | .scr ds => M.pure ds
  | .tup ds => M.pure ds
  | .v (.str x) => M.pure (sgnD x)
  | _ => M.no
theorem id_any {K : PySem.W.Frag} {tg l : Expr} {tl : TE} {dd : M D} (h : DD X W l tl dd) (hK : X.K = K := by rfl) : ID X W tg l (iAny K tl) (M.bind dd seqX) := by
  subst hK
  exact ⟨pi_any h.pe, fun Z F μ c σ H P R p => by
    cases e : dd c with
    | no =>
      unfold M.bind at p
      rw [e] at p
      exact p.elim
    | ex x c1 =>
      unfold M.bind at p
      rw [e] at p
      exact .inl (h.ev Z F μ c σ H _ R (by rw [e]; exact p))
    | ok x c1 =>
      have p1 := p.bind
      rw [e] at p1
      cases x with
      | lst ds =>
        refine .inl (h.ev Z F μ c σ H _ R (by
          rw [e]
          refine fun F' μ' H' l R' v r => ?_
          cases r with
          | lst hs rs =>
            have hq : SqL X.K F' _ _ := .of hs
            exact ⟨_, rfl, ⟨_, R'.ex.seq hq⟩, p1 F' μ' H' l R' F' μ' H' (Le.refl _ _) R' _ (wk_list hq rs)⟩))
      | scr ds =>
        refine .inl (h.ev Z F μ c σ H _ R (by
          rw [e]
          refine fun F' μ' H' l R' v r => ?_
          cases r with
          | scr hq rs => exact ⟨_, rfl, ⟨_, R'.ex.seq hq⟩, p1 F' μ' H' l R' F' μ' H' (Le.refl _ _) R' _ (wk_list hq rs)⟩))
      | tup ds =>
        refine .inr (.inl (h.ev Z F μ c σ H _ R (by
          rw [e]
          refine fun F' μ' H' l R' v r => ?_
          cases r with
          | tup hq rs => exact ⟨_, rfl, ⟨_, Same.seqT R'.ex hq⟩, p1 F' μ' H' l R' F' μ' H' (Le.refl _ _) R' _ (wk_tup hq rs)⟩)))
      | v z =>
        cases z with
        | str x =>
          refine .inr (.inr (h.ev Z F μ c σ H _ R (by
            rw [e]
            refine fun F' μ' H' l R' v r => ?_
            cases r
            exact ⟨_, rfl, p1 F' μ' H' l R' F' μ' H' (Le.refl _ _) R' _ wk_str⟩)))
        | _ =>
          unfold M.bind at p
          rw [e] at p
          exact p.elim
      | _ =>
        unfold M.bind at p
        rw [e] at p
        exact p.elim⟩
end
end My

set_option Elab.async false
set_option linter.all false
set_option maxRecDepth 100000
set_option maxHeartbeats 4000000
/-! F6: for, comprehensions, a def's promise. -/
namespace My
open PySem L2
variable [TabEnv]
section
variable {X : Cx} {W : WX} {pos : Pos} {e : Expr} {t : TE}

/-! ### range, enumerate, zip -/
omit [TabEnv] in
def rngX (ds : List D) : M (List D) := match ds with
  | [.v (.int j)] => if j < 2 ^ 62 then M.pure (if -(2 ^ 62) ≤ j then rngD 0 j.toNat else []) else M.no
  | [.v (.int i), .v (.int j)] => if -(2 ^ 62) ≤ i ∧ i < 2 ^ 62 ∧ -(2 ^ 62) ≤ j ∧ j < 2 ^ 62 then M.pure (rngD i (j - i).toNat) else M.no
  | _ => M.no
omit [TabEnv] in
def rng1X (ds : List D) : M (List D) := match ds with
  | [.v (.int j)] => if -(2 ^ 62) ≤ j ∧ j.toNat < 2 ^ 62 then M.pure (rngD 0 j.toNat) else M.no
  | _ => M.no
omit [TabEnv] in
def rng2X (ds : List D) : M (List D) := match ds with
  | [.v (.int i), .v (.int j)] => if -(2 ^ 62) ≤ i ∧ i.toNat < 2 ^ 62 ∧ -(2 ^ 62) ≤ j ∧ j.toNat < 2 ^ 62 then M.pure (rngD i (j - i).toNat) else M.no
  | _ => M.no
theorem id_range1 {tg a : Expr} {ta : TA} {p : Pos} {da : M (List D)} (hg : Gl X "range") (hm : X.mg "range" = none) (ha : AD X W [a] ta da) (hs : starEach [a] X.env = [(false, eval a X.env)] := by rfl) :
    ID X W tg (.Call (.Name "range" p) [a] [] pos) (iRng1 ta) (M.bind da rng1X) :=
  ⟨pi_range1 hg hm ha.pa hs, fun Z F μ c σ H P R p => ha.ev Z F μ c σ H _ R (p.bind.imp fun ds c1 F1 μ1 H1 l1 R1 p1 vs rs => by
    unfold rng1X at p1
    split at p1
    · next j =>
      split at p1
      · next hz =>
        cases rs with
        | cons r rs =>
          cases r
          cases rs
          exact ⟨j, rfl, hz.1, by omega, p1 F1 μ1 H1 (Le.refl _ _) R1 _ wk_range⟩
      · exact p1.elim
    · exact p1.elim)⟩
theorem id_range2 {tg a b : Expr} {ta : TA} {p : Pos} {da : M (List D)} (hg : Gl X "range") (hm : X.mg "range" = none) (ha : AD X W [a, b] ta da) (hs : starEach [a, b] X.env = [(false, eval a X.env), (false, eval b X.env)] := by rfl) (hs2 : starEach [b] X.env = [(false, eval b X.env)] := by rfl) :
    ID X W tg (.Call (.Name "range" p) [a, b] [] pos) (iRng2 ta) (M.bind da rng2X) :=
  ⟨pi_range2 hg hm ha.pa hs hs2, fun Z F μ c σ H P R p => ha.ev Z F μ c σ H _ R (p.bind.imp fun ds c1 F1 μ1 H1 l1 R1 p1 vs rs => by
    unfold rng2X at p1
    split at p1
    · next i j =>
      split at p1
      · next hz =>
        cases rs with
        | cons r rs =>
          cases r
          cases rs with
          | cons r rs =>
            cases r
            cases rs
            exact ⟨i, j, rfl, ⟨hz.1, by omega, hz.2.2.1, by omega⟩, p1 F1 μ1 H1 (Le.refl _ _) R1 _ wk_range⟩
      · exact p1.elim
    · exact p1.elim)⟩
omit [TabEnv] in
def enuX (ds : List D) : M (List D) := match ds with
  | [.lst es] => M.pure (enuD es)
  | [.scr es] => M.pure (enuD es)
  | _ => M.no
theorem id_enum {K : PySem.W.Frag} {a : Expr} {ta : TA} {p tpos : Pos} {elts : List Expr} {kk : Nat} {da : M (List D)} (hg : Gl X "enumerate") (hm : X.mg "enumerate" = none) (ha : AD X W [a] ta da) (hs : starEach [a] X.env = [(false, eval a X.env)] := by rfl) (hK : X.K = K := by rfl) :
    ID X W (.Tuple elts kk tpos) (.Call (.Name "enumerate" p) [a] [] pos) (iEnum K ta) (M.bind da enuX) := by
  subst hK
  exact ⟨pi_enum hg hm ha.pa hs, fun Z F μ c σ H P R p => ha.ev Z F μ c σ H _ R (p.bind.imp fun ds c1 F1 μ1 H1 l1 R1 p1 vs rs => by
    unfold enuX at p1
    split at p1
    · next es =>
      cases rs with
      | cons r rs =>
        cases rs
        cases r with
        | lst hs r =>
          have hq : SqL X.K F1 _ _ := .of hs
          exact ⟨_, _, rfl, R1.ex.seq hq, p1 F1 μ1 H1 (Le.refl _ _) R1 _ (wk_enum hq r)⟩
    · next es =>
      cases rs with
      | cons r rs =>
        cases rs
        cases r with
        | scr hq r => exact ⟨_, _, rfl, R1.ex.seq hq, p1 F1 μ1 H1 (Le.refl _ _) R1 _ (wk_enum hq r)⟩
    · exact p1.elim)⟩
omit [TabEnv] in
def zipX (ds : List D) : M (List D) := match ds with
  | [.lst xs, .lst ys] => M.pure ((xs.zip ys).map fun p => .tup [p.1, p.2])
  | _ => M.no
theorem id_zip {K : PySem.W.Frag} {a b : Expr} {ta : TA} {p tpos : Pos} {elts : List Expr} {kk : Nat} {da : M (List D)} (hg : Gl X "zip") (hm : X.mg "zip" = none) (ha : AD X W [a, b] ta da)
    (hs : starEach [a, b] X.env = (false, eval a X.env) :: starEach [b] X.env := by rfl) (hpl : (backTo pos (starEach [b] X.env)).any (·.1) = false := by rfl) (hK : X.K = K := by rfl) :
    ID X W (.Tuple elts kk tpos) (.Call (.Name "zip" p) [a, b] [] pos) (iZip K ta) (M.bind da zipX) := by
  subst hK
  exact ⟨pi_zip hg hm ha.pa hs hpl, fun Z F μ c σ H P R p => ha.ev Z F μ c σ H _ R (p.bind.imp fun ds c1 F1 μ1 H1 l1 R1 p1 vs rs => by
    unfold zipX at p1
    split at p1
    · next xs ys =>
      cases rs with
      | cons r1 rs =>
        cases rs with
        | cons r2 rs =>
          cases rs
          cases r1 with
          | lst h1 r1 =>
            cases r2 with
            | lst h2 r2 =>
              have q1 : SqL X.K F1 _ _ := .of h1
              have q2 : SqL X.K F1 _ _ := .of h2
              exact ⟨_, _, _, _, rfl, R1.ex.seq q1, R1.ex.seq q2, p1 F1 μ1 H1 (Le.refl _ _) R1 _ (wk_zip q1 q2 r1 r2)⟩
    · exact p1.elim)⟩

/-! ### for -/
omit [TabEnv] in
def itF (dg : D → M Unit) (db : M Fl) : List D → M Fl
  | [] => M.pure .nx
  | d :: r => M.bind (M.ne (dg d)) fun _ => M.bind db fun f => match f with
      | .nx => itF dg db r
      | .ct => itF dg db r
      | .bk => M.pure .nx
      | .rt x => M.pure (.rt x)
omit [TabEnv] in
def dFor (di : M (List D)) (dg : D → M Unit) (db : M Fl) : M Fl := M.bind di fun ds => itF dg db ds
theorem sd_for {tg iter : Expr} {body : List Stmt} {wi : TI} {vs : List Nat} {g : TG} {tb : TS} {di : M (List D)} {dg : D → M Unit} {db : M Fl} (hp : PassesOwn (model X.prog X.w) X.A X.env X.xe) (hc : X.calm = true) (hi : ID X W tg iter wi di) (hg : GD X tg vs g dg) (hb : BD X W body tb db)
    (hs : ∀ x, foldedSetIterable iter X.env x = pure x := by intro _; rfl) : SD X W (.For tg iter body [] pos) (tFor wi g tb) (dFor di dg db) := by
  refine ⟨ps_for hp hc hi.pi hg.pg hb.ps hs, fun Z F μ c σ H D R p => hi.ev Z F μ c σ H _ R (PostS.bind p |>.imp fun ds c1 F1 μ1 H1 l1 R1 p1 J wk => ?_)⟩
  refine ⟨fun i m σ' H' => m = ds.length - i ∧ i ≤ ds.length ∧ ∃ F' μ' c', Le F1 μ1 F' μ' ∧ Rel X.K Z F' μ' c' σ' H' ∧ PostS X.K Z F' μ' W (itF dg db (ds.drop i) c') D, ⟨ds.length, by simp, Nat.zero_le _, F1, μ1, c1, Le.refl _ _, R1, p1⟩, ?_⟩
  rintro i m σ2 H2 ⟨rfl, hi2, F2, μ2, c2, l2, R2, p2⟩
  have wk2 := wk.mono l2
  by_cases hlt : i < ds.length
  · refine .inr ⟨wk2.go i H2 R2.ex hlt, fun σ' H' => ∃ F' μ' c', Le F1 μ1 F' μ' ∧ Rel X.K Z F' μ' c' σ' H' ∧ PostS X.K Z F' μ' W (itF dg db (ds.drop (i + 1)) c') D, fun σ' H' h => ⟨_, by omega, rfl, hlt, h⟩, fun x H' y => ?_⟩
    obtain ⟨d, e1, q⟩ := wk2.yld i H2 x H' R2.ex hlt y
    have ed : ds.drop i = d :: ds.drop (i + 1) := by
      rw [List.drop_eq_getElem_cons hlt]
      rw [List.getElem?_eq_getElem hlt] at e1
      rw [Option.some.inj e1]
    rw [ed] at p2
    -- the item, as it stands behind the iterator's turn
    obtain ⟨F3, l3, R3, r3⟩ : ∃ F3, Le F2 μ2 F3 μ2 ∧ Rel X.K Z F3 μ2 c2 σ2 H' ∧ Rep X.K F3 μ2 x d := by
      rcases q with ⟨rfl, r⟩ | ⟨T, us, es, h1, rfl, rfl, rfl, r⟩
      · exact ⟨F2, Le.refl _ _, R2, r⟩
      · obtain ⟨R3, l3⟩ := R2.new (o := .tup us) h1
        exact ⟨_, l3, R3, .tup (.of upd_same) (r.mono l3)⟩
    unfold itF M.bind M.ne at p2
    cases q2 : dg d c2 with
    | no => rw [q2] at p2; exact p2.elim
    | ex _ _ => rw [q2] at p2; exact p2.elim
    | ok u c3 =>
      rw [q2] at p2
      refine hg.ev Z F3 μ2 c2 σ2 H' _ x d R3 r3 ⟨c3, q2, fun σ3 R4 _ => hb.ev Z F3 μ2 c3 σ3 H' _ R4 ?_⟩
      have p3 := p2.le l3
      dsimp only at p3
      cases q3 : db c3 with
      | no => rw [q3] at p3; exact p3
      | ex _ _ => rw [q3] at p3; exact p3
      | ok f c4 =>
        rw [q3] at p3
        cases f with
        | nx => exact fun σ' F' μ' H4 l R' => ⟨F', μ', c4, (l2.trans l3).trans l, R', p3.le l⟩
        | ct => exact fun σ' F' μ' H4 l R' => ⟨F', μ', c4, (l2.trans l3).trans l, R', p3.le l⟩
        | bk => exact p3
        | rt d => exact p3
  · have e1 : ds.drop i = [] := List.drop_eq_nil_of_le (by omega)
    rw [e1] at p2
    exact .inl ⟨wk2.stop i H2 R2.ex (by omega), p2 σ2 F2 μ2 H2 (Le.refl _ _) R2⟩

/-! ### comprehensions -/
omit [TabEnv] in
def wipeD (r : List Slot) : List Nat → List Slot
  | [] => r
  | v :: vs => (wipeD r vs).set v .no
theorem rel_no {K : PySem.W.Frag} {Z F : Hp} {μ : List Addr} {c : Stt} {σ : St} {H : Hp} (h : Rel K Z F μ c σ H) (i : Nat) (y : Option V) : Rel K Z F μ ⟨c.r.set i .no, c.S⟩ (σ.set i y) H := by
  have key : ∀ (j : Nat) (z : Slot), z ≠ .no → (c.r.set i .no)[j]? = some z → j ≠ i ∧ c.r[j]? = some z := fun j z hz q => by
    by_cases hj : j = i
    · subst hj
      rw [List.getElem?_set] at q
      simp at q
      exact absurd q.2.symm hz
    · rw [List.getElem?_set_ne (Ne.symm hj)] at q; exact ⟨hj, q⟩
  refine { ex := h.ex, exz := h.exz, fz := h.fz, len := by simpa using h.len, slot := fun j y q => ?_, own := fun j m q => ?_, dis := fun j k a m m' q1 q2 e1 e2 => ?_, lm := h.lm, sto := h.sto, dst := fun j n a m q e1 e2 => ?_, ndm := h.ndm, tab := h.tab }
  · obtain ⟨hj, q⟩ := key j _ (fun z => by cases z) q
    rw [List.getElem?_set_ne (Ne.symm hj)]
    exact h.slot j y q
  · obtain ⟨hj, q⟩ := key j _ (fun z => by cases z) q
    rw [List.getElem?_set_ne (Ne.symm hj)]
    exact h.own j m q
  · obtain ⟨hj, q1⟩ := key j _ (fun z => by cases z) q1
    obtain ⟨hk, q2⟩ := key k _ (fun z => by cases z) q2
    rw [List.getElem?_set_ne (Ne.symm hj)] at e1
    rw [List.getElem?_set_ne (Ne.symm hk)] at e2
    exact h.dis j k a m m' q1 q2 e1 e2
  · obtain ⟨hj, q⟩ := key j _ (fun z => by cases z) q
    rw [List.getElem?_set_ne (Ne.symm hj)] at e1
    exact h.dst j n a m q e1 e2
theorem rel_wipe {K : PySem.W.Frag} {Z F : Hp} {μ : List Addr} {c : Stt} {σ : St} {H : Hp} (h : Rel K Z F μ c σ H) : ∀ vs : List Nat, Rel K Z F μ ⟨wipeD c.r vs, c.S⟩ (wipe σ vs) H
  | [] => h
  | v :: vs => rel_no (rel_wipe h vs) v none
omit [TabEnv] in
/-- the slots vs as they were -/
def backD (r0 r : List Slot) : List Nat → List Slot
  | [] => r
  | v :: vs => (backD r0 r vs).set v (match r0[v]? with
    | some (.d x) => .d x
    | _ => .no)
omit [TabEnv] in
theorem back_get {r0 r : List Slot} {j : Nat} {z : Slot} : ∀ {vs : List Nat}, (backD r0 r vs)[j]? = some z → (j ∈ vs ∧ (z = .no ∨ ∃ x, z = .d x ∧ r0[j]? = some (.d x))) ∨ (j ∉ vs ∧ r[j]? = some z)
  | [], q => .inr ⟨by simp, q⟩
  | v :: vs, q => by
    unfold backD at q
    by_cases hj : j = v
    · subst hj
      refine .inl ⟨List.mem_cons_self, ?_⟩
      have hl : j < (backD r0 r vs).length := by
        have := (List.getElem?_eq_some_iff.mp q).1
        simpa using this
      rw [List.getElem?_set_self hl] at q
      cases q
      split
      · next x hx => exact .inr ⟨x, rfl, hx⟩
      · exact .inl rfl
    · rw [List.getElem?_set_ne (Ne.symm hj)] at q
      rcases back_get q with ⟨h1, h2⟩ | ⟨h1, h2⟩
      · exact .inl ⟨List.mem_cons_of_mem _ h1, h2⟩
      · exact .inr ⟨fun z => by rcases List.mem_cons.mp z with z | z; exact hj z; exact h1 z, h2⟩
omit [TabEnv] in
theorem back_len {r0 r : List Slot} : ∀ vs : List Nat, (backD r0 r vs).length = r.length
  | [] => rfl
  | v :: vs => by unfold backD; rw [List.length_set, back_len vs]
theorem rel_back {K : PySem.W.Frag} {Z F F' : Hp} {μ μ' : List Addr} {c c' : Stt} {σ : St} {H H' : Hp} (h : Rel K Z F μ c σ H) (le : Le F μ F' μ') (vs : List Nat) (h' : Rel K Z F' μ' c' (wipe σ vs) H') : Rel K Z F' μ' ⟨backD c.r c'.r vs, c'.S⟩ σ H' := by
  have key : ∀ (j : Nat) (m : Cell), (backD c.r c'.r vs)[j]? = some (.own m) → c'.r[j]? = some (.own m) ∧ (wipe σ vs)[j]? = σ[j]? := fun j m q => by
    rcases back_get q with ⟨_, h2⟩ | ⟨h1, h2⟩
    · rcases h2 with h2 | ⟨x, h2, _⟩ <;> cases h2
    · exact ⟨h2, wipe_out h1⟩
  refine { ex := h'.ex, exz := h'.exz, fz := h'.fz, len := ?_, slot := fun j y q => ?_, own := fun j m q => ?_, dis := fun j k a m m' q1 q2 e1 e2 => ?_, lm := h'.lm, sto := h'.sto, dst := fun j n a m q e1 e2 => ?_, ndm := h'.ndm, tab := h'.tab }
  · have := h'.len
    rw [wipe_length] at this
    rw [this]
    exact (back_len vs).symm
  · rcases back_get q with ⟨_, h2⟩ | ⟨h1, h2⟩
    · rcases h2 with h2 | ⟨x, h2, h3⟩
      · cases h2
      · cases h2
        obtain ⟨v, e1, e2⟩ := h.slot j y h3
        exact ⟨v, e1, e2.mono le⟩
    · obtain ⟨v, e1, e2⟩ := h'.slot j y h2
      rw [wipe_out h1] at e1
      exact ⟨v, e1, e2⟩
  · obtain ⟨q1, w⟩ := key j m q
    rw [← w]
    exact h'.own j m q1
  · obtain ⟨q1, w1⟩ := key j m q1
    obtain ⟨q2, w2⟩ := key k m' q2
    rw [← w1] at e1
    rw [← w2] at e2
    exact h'.dis j k a m m' q1 q2 e1 e2
  · obtain ⟨q, w⟩ := key j m q
    rw [← w] at e1
    exact h'.dst j n a m q e1 e2
/-- an object laid aside -/
theorem rel_aside {K : PySem.W.Frag} {Z F : Hp} {μ : List Addr} {c : Stt} {σ : St} {H : Hp} {p : Addr} {o : HO} (h : Rel K Z F μ c σ H) (hp : H p = some o) (n : Nob Z F μ c σ p) : Rel K (upd Z p o) F μ c σ H :=
  { ex := h.ex, exz := fun a x e => (by
      by_cases ha : a = p
      · subst ha; rw [upd_same] at e; cases e; exact hp
      · rw [upd_ne ha] at e; exact h.exz a x e), fz := fun a x e => (by
      by_cases ha : a = p
      · subst ha; exact n.f
      · rw [upd_ne ha] at e; exact h.fz a x e), len := h.len, slot := h.slot, own := fun i m q => (by
      obtain ⟨a, e1, c1, g1⟩ := h.own i m q
      have : a ≠ p := fun z => by subst z; exact n.no i m q e1
      exact ⟨a, e1, ⟨by rw [upd_ne this]; exact c1.z, c1.f, c1.o, c1.l⟩, g1⟩), dis := h.dis, lm := h.lm, sto := fun k a m e1 e2 => (by
      have c1 := h.sto k a m e1 e2
      have : a ≠ p := fun z => by subst z; exact n.nm k e1
      exact ⟨by rw [upd_ne this]; exact c1.z, c1.f, c1.o, c1.l⟩), dst := h.dst, ndm := h.ndm, tab := h.tab }
/-- .. is nobody's -/
theorem aside_nob {K : PySem.W.Frag} {Z F : Hp} {μ : List Addr} {c : Stt} {σ : St} {H : Hp} {p : Addr} {o : HO} (h : Rel K (upd Z p o) F μ c σ H) (hz : Z p = none) : Rel K Z F μ c σ H ∧ Nob Z F μ c σ p ∧ H p = some o := by
  have zs : ∀ a x, Z a = some x → upd Z p o a = some x := fun a x e => by
    have : a ≠ p := fun z => by subst z; rw [hz] at e; cases e
    rw [upd_ne this]; exact e
  have zn : ∀ a, upd Z p o a = none → Z a = none ∧ a ≠ p := fun a e => by
    have : a ≠ p := fun z => by subst z; rw [upd_same] at e; cases e
    rw [upd_ne this] at e
    exact ⟨e, this⟩
  refine ⟨{ ex := h.ex, exz := fun a x e => h.exz a x (zs a x e), fz := fun a x e => h.fz a x (zs a x e), len := h.len, slot := h.slot, own := fun i m q => (by
      obtain ⟨a, e1, c1, g1⟩ := h.own i m q
      exact ⟨a, e1, ⟨(zn a c1.z).1, c1.f, c1.o, c1.l⟩, g1⟩), dis := h.dis, lm := h.lm, sto := fun k a m e1 e2 => (by
      have c1 := h.sto k a m e1 e2
      exact ⟨(zn a c1.z).1, c1.f, c1.o, c1.l⟩), dst := h.dst, ndm := h.ndm, tab := h.tab }, ⟨h.fz p o upd_same, hz, fun i m q e => ?_, fun k e => ?_⟩, h.exz p o upd_same⟩
  · obtain ⟨a, e1, c1, _⟩ := h.own i m q
    rw [e] at e1; cases e1
    exact (zn _ c1.z).2 rfl
  · have hk : k < c.S.length := by rw [← h.lm]; exact (List.getElem?_eq_some_iff.mp e).1
    exact (zn _ (h.sto k p _ e (List.getElem?_eq_getElem hk)).z).2 rfl
/-- .. is written -/
theorem aside_put {K : PySem.W.Frag} {Z F : Hp} {μ : List Addr} {c : Stt} {σ : St} {H : Hp} {p : Addr} {o o' : HO} (h : Rel K (upd Z p o) F μ c σ H) (hz : Z p = none) (hn : HO.noTab o := by exact noTab_lst) : Rel K (upd Z p o') F μ c σ (upd H p o') := by
  obtain ⟨h1, n, hp⟩ := aside_nob h hz
  refine rel_aside (H := upd H p o') ?_ upd_same n
  have ne : ∀ {a : Addr} {x : HO}, F a = some x → a ≠ p := fun {a x} e z => by subst z; rw [n.f] at e; cases e
  refine { ex := fun a x e => (by rw [upd_ne (ne e)]; exact h1.ex a x e), exz := fun a x e => (by
      have : a ≠ p := fun z => by subst z; rw [hz] at e; cases e
      rw [upd_ne this]; exact h1.exz a x e), fz := h1.fz, len := h1.len, slot := h1.slot, own := fun i m q => (by
      obtain ⟨a, e1, c1, g1⟩ := h1.own i m q
      have : a ≠ p := fun z => by subst z; exact n.no i m q e1
      exact ⟨a, e1, ⟨c1.z, c1.f, (let ⟨u, e2, e3⟩ := c1.o; ⟨u, by rw [upd_ne this]; exact e2, e3⟩), fun g => by rw [upd_ne this]; exact c1.l g⟩, g1⟩), dis := h1.dis, lm := h1.lm, sto := fun k a m e1 e2 => (by
      have c1 := h1.sto k a m e1 e2
      have : a ≠ p := fun z => by subst z; exact n.nm k e1
      exact ⟨c1.z, c1.f, (let ⟨u, e2, e3⟩ := c1.o; ⟨u, by rw [upd_ne this]; exact e2, e3⟩), fun g => by rw [upd_ne this]; exact c1.l g⟩), dst := h1.dst, ndm := h1.ndm, tab := tabs_put h1.tab hp hn }

omit [TabEnv] in
def itL (dg : D → M Unit) (dt : M Bool) (de : M D) (vs : List Nat) (r0 : List Slot) : List D → List D → M (List D)
  | [], acc => fun c => .ok acc ⟨wipeD c.r vs, c.S⟩
  | d :: r, acc => fun c => M.bind (M.ne (dg d)) (fun _ => M.bind (M.ne dt) fun k => if k = true then M.bind (M.ne de) fun y => fun c => if acc.length < 1000000 then itL dg dt de vs r0 r (acc ++ [y]) c else .no
    else itL dg dt de vs r0 r acc) ⟨wipeD c.r vs, c.S⟩
omit [TabEnv] in
def dLc (di : M (List D)) (dg : D → M Unit) (dt : M Bool) (de : M D) (vs : List Nat) : M (List D) := M.bind di fun ds c => M.bind (itL dg dt de vs c.r ds []) (fun ys c' => .ok ys ⟨backD c.r c'.r vs, c'.S⟩) c
structure TsD (X : Cx) (W : WX) (ifs : List Expr) (t : TT) (d : M Bool) : Prop where
  pt : PTs X ifs t
  ev : EvT X.K W t d
theorem tsd_nil : TsD X W [] tYes (M.pure true) := ⟨pts_nil, fun Z F μ c σ H Q R p => p F μ H (Le.refl _ _) R⟩
theorem tsd_one {t : TT} {d : M Bool} (h : TD X W e t d) : TsD X W [e] t d := ⟨pts_one h.pt, h.ev⟩
theorem lc_ev {K : PySem.W.Frag} {W W' : WX} {wi : TI} {vs us : List Nat} {g : TG} {tt : TT} {te : TE} {di : M (List D)} {dg : D → M Unit} {dt : M Bool} {de : M D} (hi : EvI K W wi di) (eg : EvG K vs g dg) (et : EvT K W' tt dt) (ee : EvD K W' te de) (hv : ∀ j ∈ vs, j ∈ us) :
    EvN K W (tLc wi g tt te us) (dLc di dg dt de us) := fun Z F μ c σ H Q R p => by
  refine hi Z F μ c σ H _ R (p.bind.imp fun ds c1 F1 μ1 H1 l1 R1 p1 J wk A hA => ?_)
  have nA := R1.nob hA
  have zA : Z A = none := nA.z
  -- what holds between two turns
  refine ⟨fun i m H' => m = ds.length - i ∧ i ≤ ds.length ∧ ∃ F' μ' c' ws acc, Le F1 μ1 F' μ' ∧ Rel K (upd Z A (.lst ws)) F' μ' ⟨wipeD c'.r us, c'.S⟩ (wipe σ us) H' ∧ Reps K F' μ' ws acc ∧ acc.length ≤ 1000000 ∧
      Post K Z F' μ' σ W (M.bind (itL dg dt de us c1.r (ds.drop i) acc) (fun ys c' => .ok ys ⟨backD c1.r c'.r us, c'.S⟩) c') (fun ds c' F' μ' H' => ∀ p vs, H' p = some (.lst vs) → Nob Z F' μ' c' σ p → Reps K F' μ' vs ds → Q (.ref p) H'),
    ⟨ds.length, by simp, Nat.zero_le _, F1, μ1, c1, [], [], Le.refl _ _, rel_wipe (rel_aside (R1.up (same_new hA)) upd_same ?_) us, .nil, Nat.zero_le _, p1⟩, ?_⟩
  · exact nA
  rintro i m H2 ⟨rfl, hi2, F2, μ2, c2, ws, acc, l2, R2, ra, hz, p2⟩
  have wk2 := wk.mono l2
  by_cases hlt : i < ds.length
  · refine .inr ⟨wk2.go i H2 R2.ex hlt, fun H' => ∃ F' μ' c' ws acc, Le F1 μ1 F' μ' ∧ Rel K (upd Z A (.lst ws)) F' μ' ⟨wipeD c'.r us, c'.S⟩ (wipe σ us) H' ∧ Reps K F' μ' ws acc ∧ acc.length ≤ 1000000 ∧
      Post K Z F' μ' σ W (M.bind (itL dg dt de us c1.r (ds.drop (i + 1)) acc) (fun ys c' => .ok ys ⟨backD c1.r c'.r us, c'.S⟩) c') (fun ds c' F' μ' H' => ∀ p vs, H' p = some (.lst vs) → Nob Z F' μ' c' σ p → Reps K F' μ' vs ds → Q (.ref p) H'),
      fun H' h => ⟨_, by omega, rfl, hlt, h⟩, fun x H' y => ?_⟩
    obtain ⟨d, e1, q⟩ := wk2.yld i H2 x H' R2.ex hlt y
    have ed : ds.drop i = d :: ds.drop (i + 1) := by
      rw [List.drop_eq_getElem_cons hlt]
      rw [List.getElem?_eq_getElem hlt] at e1
      rw [Option.some.inj e1]
    rw [ed] at p2
    obtain ⟨F3, l3, R3, r3⟩ : ∃ F3, Le F2 μ2 F3 μ2 ∧ Rel K (upd Z A (.lst ws)) F3 μ2 ⟨wipeD c2.r us, c2.S⟩ (wipe σ us) H' ∧ Rep K F3 μ2 x d := by
      rcases q with ⟨rfl, r⟩ | ⟨T, xs, es, h1, rfl, rfl, rfl, r⟩
      · exact ⟨F2, Le.refl _ _, R2, r⟩
      · obtain ⟨R3, l3⟩ := R2.new (o := .tup xs) h1
        exact ⟨_, l3, R3, .tup (.of upd_same) (r.mono l3)⟩
    replace p2 := p2.le l3
    have ra3 := ra.mono l3
    unfold itL at p2
    unfold M.bind M.ne at p2
    dsimp only at p2
    cases q2 : dg d ⟨wipeD c2.r us, c2.S⟩ with
    | no => rw [q2] at p2; exact p2.elim
    | ex _ _ => rw [q2] at p2; exact p2.elim
    | ok u c3 =>
      rw [q2] at p2
      dsimp only at p2
      refine eg _ F3 μ2 _ (wipe σ us) H' _ x d R3 r3 ⟨c3, q2, fun σ3 R4 w3 => ?_⟩
      have ew : wipe σ3 us = wipe σ us := by
        rw [w3 us hv]
        have ww : ∀ vs : List Nat, (∀ j ∈ vs, j ∈ us) → wipe (wipe σ vs) us = wipe σ us := by
          intro vs
          induction vs with
          | nil => intro _; rfl
          | cons v vs ih =>
            intro hh
            show wipe ((wipe σ vs).set v none) us = wipe σ us
            rw [wipe_set (hh v List.mem_cons_self)]
            exact ih fun j hj => hh j (List.mem_cons_of_mem _ hj)
        exact ww us fun _ h => h
      refine ⟨ew, et _ F3 μ2 c3 σ3 H' _ R4 ?_⟩
      cases q3 : dt c3 with
      | no => rw [q3] at p2; exact p2.elim
      | ex _ _ => rw [q3] at p2; exact p2.elim
      | ok k c4 =>
        rw [q3] at p2
        dsimp only at p2
        refine fun F4 μ4 H4 l4 R5 => ?_
        replace p2 := p2.le l4
        cases k with
        | false =>
          refine ⟨F4, μ4, c4, ws, acc, (l2.trans l3).trans l4, ?_, ra3.mono l4, hz, p2⟩
          have := rel_wipe R5 us
          rw [ew] at this
          exact this
        | true =>
          rw [if_pos rfl] at p2
          show te σ3 H4 _
          refine ee _ F4 μ4 c4 σ3 H4 _ R5 ?_
          cases q4 : de c4 with
          | no => rw [q4] at p2; exact p2.elim
          | ex _ _ => rw [q4] at p2; exact p2.elim
          | ok z c5 =>
            rw [q4] at p2
            dsimp only at p2
            refine fun F5 μ5 H5 l5 R6 v rv => ?_
            replace p2 := p2.le l5
            have ra5 := (ra3.mono l4).mono l5
            obtain ⟨_, _, hA5⟩ := aside_nob R6 zA
            by_cases hz5 : acc.length < 1000000
            · rw [if_pos hz5] at p2
              have hw : ws.length < sizeLine := Nat.lt_of_lt_of_le (by rw [ra5.length]; exact hz5) (small6 (Nat.le_refl _))
              refine ⟨ws, hA5, hw, F5, μ5, c5, ws ++ [v], acc ++ [z], ((l2.trans l3).trans l4).trans l5, ?_, ra5.snoc rv, by rw [List.length_append, List.length_singleton]; exact hz5, p2⟩
              have := rel_wipe (aside_put R6 zA (o' := .lst (ws ++ [v]))) us
              rw [ew] at this
              exact this
            · rw [if_neg hz5] at p2
              exact p2.elim
  · have e1 : ds.drop i = [] := List.drop_eq_nil_of_le (by omega)
    rw [e1] at p2
    obtain ⟨R3, n3, hA3⟩ := aside_nob R2 zA
    have R4 := rel_back R1 l2 us R3
    exact .inl ⟨wk2.stop i H2 R2.ex (by omega), p2 F2 μ2 H2 (Le.refl _ _) R4 A ws hA3 ⟨n3.f, n3.z, fun j m' q e => by
      obtain ⟨a, e2, c2', _⟩ := R4.own j m' q
      rw [e] at e2; cases e2
      rcases back_get q with ⟨_, h2⟩ | ⟨h1, h2⟩
      · rcases h2 with h2 | ⟨x, h2, _⟩ <;> cases h2
      · exact n3.no j m' h2 (by rw [wipe_out h1]; exact e), n3.nm⟩ ra⟩
theorem en_lc {W' : WX} {elt tg iter : Expr} {ifs : List Expr} {scope : Scope} {own : List (Str × Nat)} {wi : TI} {vs : List Nat} {g : TG} {tt : TT} {te : TE} {di : M (List D)} {dg : D → M Unit} {dt : M Bool} {de : M D} (hc : X.calm = true) (hN : X.N.Nodup) (hi : ID X W tg iter wi di) (ok : BlkOk X.N X.env.scope scope own)
    (hg : ∀ (s : Shared) (H : Hp) (C : Addr) (cl : List (Str × Addr)) (fp : List Addr), GD (X.blk s H scope (compEnvC scope cl C X.env) fp) tg vs g dg) (ht : ∀ (s : Shared) (H : Hp) (C : Addr) (cl : List (Str × Addr)) (fp : List Addr), TsD (X.blk s H scope (compEnvC scope cl C X.env) fp) W' ifs tt dt)
    (he : ∀ (s : Shared) (H : Hp) (C : Addr) (cl : List (Str × Addr)) (fp : List Addr), DD (X.blk s H scope (compEnvC scope cl C X.env) fp) W' elt te de) (hv : ∀ j ∈ vs, j ∈ own.map (·.2) := by decide) (hs : ∀ x, foldedSetIterable iter X.env x = pure x := by intro _; rfl) :
    EN X W (.ListComp elt [⟨tg, iter, ifs, 0⟩] scope pos) (tLc wi g tt te (own.map (·.2))) (dLc di dg dt de (own.map (·.2))) := by
  have eg : EvG X.K vs g dg := (hg {} (fun _ => none) 0 [] []).ev
  have et : EvT X.K W' tt dt := (ht {} (fun _ => none) 0 [] []).ev
  have ee : EvD X.K W' te de := (he {} (fun _ => none) 0 [] []).ev
  exact ⟨pe_lc hc hN hi.pi ok (fun s H C cl fp => (hg s H C cl fp).pg) (fun s H C cl fp => (ht s H C cl fp).pt) (fun s H C cl fp => (he s H C cl fp).pe) hs, lc_ev hi.ev eg et ee hv⟩
theorem sd_setLc {W' : WX} {i : Nat} {y : Str} {py spos : Pos} {elt tg iter : Expr} {ifs : List Expr} {scope : Scope} {own : List (Str × Nat)} {wi : TI} {vs : List Nat} {g : TG} {tt : TT} {te : TE} {di : M (List D)} {dg : D → M Unit} {dt : M Bool} {de : M D} (hc : X.calm = true) (hN : X.N.Nodup) (hy : X.N[i]? = some y) (hyl : X.env.scope.names.lookup y = some .local)
    (hsw : swapsWith (.ListComp elt [⟨tg, iter, ifs, 0⟩] scope pos) (some (.Name y py)) spos.line X.env = pure true) (hi : ID X W tg iter wi di) (ok : BlkOk X.N X.env.scope scope own)
    (hg : ∀ (s : Shared) (H : Hp) (C : Addr) (cl : List (Str × Addr)) (fp : List Addr), GD (X.blk s H scope (compEnvC scope cl C X.env) fp) tg vs g dg) (ht : ∀ (s : Shared) (H : Hp) (C : Addr) (cl : List (Str × Addr)) (fp : List Addr), TsD (X.blk s H scope (compEnvC scope cl C X.env) fp) W' ifs tt dt)
    (he : ∀ (s : Shared) (H : Hp) (C : Addr) (cl : List (Str × Addr)) (fp : List Addr), DD (X.blk s H scope (compEnvC scope cl C X.env) fp) W' elt te de) (hv : ∀ j ∈ vs, j ∈ own.map (·.2) := by decide) (hs : ∀ x, foldedSetIterable iter X.env x = pure x := by intro _; rfl) :
    SD X W (.Assign [.Name y py] (.ListComp elt [⟨tg, iter, ifs, 0⟩] scope pos) spos) (tAsg (tLc wi g tt te (own.map (·.2))) (gName i)) (dSetN i (dLc di dg dt de (own.map (·.2)))) :=
  ⟨ps_setLc hc hN hy hyl hsw hi.pi ok (fun s H C cl fp => (hg s H C cl fp).pg) (fun s H C cl fp => (ht s H C cl fp).pt) (fun s H C cl fp => (he s H C cl fp).pe) hs, ev_setN (en_lc (pos := pos) hc hN hi ok hg ht he hv hs).ev⟩
end

/-! ### a def -/
omit [TabEnv] in
/-- what a body computes: n slots, k operands -/
def runD (n k : Nat) (b : M Fl) : G := fun ds S => if ds.length = k then match b ⟨ds.map .d ++ List.replicate (n - k) .no, S⟩ with
    | .ok (.rt d) c => .ok d c.S
    | .ok .nx c => .ok (.v .non) c.S
    | .ex e c => .ex e c.S
    | _ => .no
  else .no
theorem rel_start {K : PySem.W.Frag} {Z F : Hp} {μ : List Addr} {S : List Cell} {H : Hp} {vs : List V} {ds : List D} {N : List Str} {k : Nat} (h : Rel K Z F μ ⟨[], S⟩ [] H) (rs : Reps K F μ vs ds) (hk : ds.length = k) (hN : k ≤ N.length) :
    Rel K Z F μ ⟨ds.map .d ++ List.replicate (N.length - k) .no, S⟩ (L2.start N vs) H := by
  have hv : vs.length = k := by rw [rs.length]; exact hk
  have noown : ∀ (i : Nat) (m : Cell), (ds.map Slot.d ++ List.replicate (N.length - k) .no)[i]? ≠ some (.own m) := fun i m q => by
    rw [List.getElem?_append] at q
    split at q
    · rw [List.getElem?_map] at q
      cases e : ds[i]? with
      | none => rw [e] at q; cases q
      | some d => rw [e] at q; cases q
    · rw [List.getElem?_replicate] at q
      split at q <;> cases q
  refine { ex := h.ex, exz := h.exz, fz := h.fz, len := ?_, slot := fun i x q => ?_, own := fun i m q => absurd q (noown i m), dis := fun i j a m m' q => absurd q (noown i m), lm := h.lm, sto := h.sto, dst := fun i n a m q => absurd q (noown i m), ndm := h.ndm, tab := h.tab }
  · unfold L2.start
    simp [hv, hk]
  · have q : (ds.map Slot.d ++ List.replicate (N.length - k) Slot.no)[i]? = some (.d x) := q
    rw [List.getElem?_append] at q
    split at q
    · next hi =>
      rw [List.getElem?_map] at q
      cases e : ds[i]? with
      | none => rw [e] at q; cases q
      | some d =>
        rw [e] at q
        cases q
        obtain ⟨v, e1, r⟩ := rs.get e
        refine ⟨v, ?_, r⟩
        unfold L2.start
        rw [List.getElem?_append_left (by rw [List.length_map]; exact (List.getElem?_eq_some_iff.mp e1).1), List.getElem?_map, e1]
        rfl
    · rw [List.getElem?_replicate] at q
      split at q <;> cases q
theorem fn_ok {P : Program} {w : World} {K : PySem.W.Frag} {mg : Str → Option Value} {base : Heap} {x qual : Str} {st : Stmt} {f : Addr} {fd : FuncData} {N ps : List Str} {j k : Nat} {b : M Fl} (F : Fun K x qual st f fd) (S : FnScope N ps (defScope st)) (hk : ps.length = k) (hN : k ≤ N.length)
    (body : ∀ (cdv : Value) (A : Around) (outer : List Env) (s : Shared) (H : Hp) (E : XK), Room j (A.deeper (PyProof.Rows.envOfC qual (defScope st) s.heap.objs.size f cdv)) →
      ∃ t, BD (cxOf (L2N.CX P w) P w K mg base N qual (defScope st) f cdv A outer s H E) (fun cls d _ H => E cls d H) (defBody st) t b) : FnOk P w K mg base (L2N.CX P w) (j + 1) f fd ps (spG K (runD N.length k b)) := by
  refine fun_ok F S (fun vs H Q E h => ?_) (fun cdv A outer s H vs Q E hr h => ?_)
  · obtain ⟨Z, F, μ, S, ds, _, rs, p⟩ := h
    unfold runD at p
    split at p
    · next hl => rw [rs.length, hl, hk]
    · exact p.elim
  · obtain ⟨t, B⟩ := body cdv A outer s H E hr
    refine ⟨t, B.ps, ?_⟩
    obtain ⟨Z, F, μ, S, ds, R, rs, p⟩ := h
    unfold runD at p
    split at p
    · next hl =>
      refine B.ev Z F μ _ _ H _ (rel_start R rs hl hN) ?_
      have strip : ∀ {F' : Hp} {μ' : List Addr} {c : Stt} {σ' : St} {H' : Hp}, Rel K Z F' μ' c σ' H' → Rel K Z F' μ' ⟨[], c.S⟩ [] H' := fun h =>
        { ex := h.ex, exz := h.exz, fz := h.fz, len := rfl, slot := fun i x e => by simp at e, own := fun i x e => by simp at e, dis := fun i j a m m' e => by simp at e, lm := h.lm, sto := h.sto, dst := fun i n a m e => by simp at e, ndm := h.ndm, tab := h.tab }
      cases e : b ⟨ds.map .d ++ List.replicate (N.length - k) .no, S⟩ with
      | no => rw [e] at p; exact p.elim
      | ex x c => rw [e] at p; exact fun cls od σ' F' μ' H' l R' rx => p cls od F' μ' H' l (strip R') rx
      | ok fl c =>
        rw [e] at p
        cases fl with
        | nx => exact fun σ' F' μ' H' l R' => p .non F' μ' H' l (strip R') (.v _)
        | rt d => exact fun v σ' F' μ' H' l R' rv => p v F' μ' H' l (strip R') rv
        | bk => exact p.elim
        | ct => exact p.elim
    · exact p.elim
/-- another function that is no less defined -/
theorem FnOk.by {P : Program} {w : World} {K : PySem.W.Frag} {mg : Str → Option Value} {base : Heap} {CX : CXT} {k : Nat} {f : Addr} {fd : FuncData} {ps : List Str} {g g' : G} (F : FnOk P w K mg base CX k f fd ps (spG K g)) (h : ∀ ds S, g' ds S ≠ .no → g ds S = g' ds S) : FnOk P w K mg base CX k f fd ps (spG K g') :=
  L2.FnOk.imp F fun vs H Q E ⟨Z, F, μ, S, ds, R, rs, p⟩ => ⟨Z, F, μ, S, ds, R, rs, by
    have hn : g' ds S ≠ .no := fun z => by rw [z] at p; exact p
    rw [h ds S hn]
    exact p⟩
end My

set_option Elab.async false
set_option linter.all false
set_option maxRecDepth 100000
set_option maxHeartbeats 4000000
/-! F7: built-ins, slices, lists by their methods. -/
namespace My
open PySem L2
variable [TabEnv]

/-! ### lists of ints, of truths -/
omit [TabEnv] in
def intsD : List D → Option (List Int)
  | [] => some []
  | .v (.int i) :: ds => (intsD ds).map (i :: ·)
  | _ => none
omit [TabEnv] in
def blsD : List D → Option (List Bool)
  | [] => some []
  | .v (.bl b) :: ds => (blsD ds).map (b :: ·)
  | _ => none
omit [TabEnv] in
def strsD : List D → Option (List Str)
  | [] => some []
  | .v (.str x) :: ds => (strsD ds).map (x :: ·)
  | _ => none
section
variable {K : PySem.W.Frag} {F : Hp} {μ : List Addr}
omit [TabEnv] in
theorem ints_of : ∀ {ds : List D} {vs : List V} {ns : List Int}, Reps K F μ vs ds → intsD ds = some ns → vs = ns.map V.int
  | [], _, _, h, e => by cases h; unfold intsD at e; cases e; rfl
  | .v x :: ds, _, _, h, e => by
    cases h with
    | cons h r =>
      cases h
      cases x with
      | int i =>
        unfold intsD at e
        cases q : intsD ds with
        | none => rw [q] at e; cases e
        | some ms => rw [q] at e; cases e; rw [ints_of r q]; rfl
      | _ => unfold intsD at e; cases e
  | .tup _ :: _, _, _, _, e => by unfold intsD at e; cases e
  | .lst _ :: _, _, _, _, e => by unfold intsD at e; cases e
  | .scr _ :: _, _, _, _, e => by unfold intsD at e; cases e
  | .dct _ :: _, _, _, _, e => by unfold intsD at e; cases e
  | .ins _ _ :: _, _, _, _, e => by unfold intsD at e; cases e
  | .loc _ :: _, _, _, _, e => by unfold intsD at e; cases e
omit [TabEnv] in
theorem bls_of : ∀ {ds : List D} {vs : List V} {ns : List Bool}, Reps K F μ vs ds → blsD ds = some ns → vs = ns.map V.bl
  | [], _, _, h, e => by cases h; unfold blsD at e; cases e; rfl
  | .v x :: ds, _, _, h, e => by
    cases h with
    | cons h r =>
      cases h
      cases x with
      | bl i =>
        unfold blsD at e
        cases q : blsD ds with
        | none => rw [q] at e; cases e
        | some ms => rw [q] at e; cases e; rw [bls_of r q]; rfl
      | _ => unfold blsD at e; cases e
  | .tup _ :: _, _, _, _, e => by unfold blsD at e; cases e
  | .lst _ :: _, _, _, _, e => by unfold blsD at e; cases e
  | .scr _ :: _, _, _, _, e => by unfold blsD at e; cases e
  | .dct _ :: _, _, _, _, e => by unfold blsD at e; cases e
  | .ins _ _ :: _, _, _, _, e => by unfold blsD at e; cases e
  | .loc _ :: _, _, _, _, e => by unfold blsD at e; cases e
omit [TabEnv] in
theorem strs_of : ∀ {ds : List D} {vs : List V} {ns : List Str}, Reps K F μ vs ds → strsD ds = some ns → vs = ns.map V.str
  | [], _, _, h, e => by cases h; unfold strsD at e; cases e; rfl
  | .v x :: ds, _, _, h, e => by
    cases h with
    | cons h r =>
      cases h
      cases x with
      | str i =>
        unfold strsD at e
        cases q : strsD ds with
        | none => rw [q] at e; cases e
        | some ms => rw [q] at e; cases e; rw [strs_of r q]; rfl
      | _ => unfold strsD at e; cases e
  | .tup _ :: _, _, _, _, e => by unfold strsD at e; cases e
  | .lst _ :: _, _, _, _, e => by unfold strsD at e; cases e
  | .scr _ :: _, _, _, _, e => by unfold strsD at e; cases e
  | .dct _ :: _, _, _, _, e => by unfold strsD at e; cases e
  | .ins _ _ :: _, _, _, _, e => by unfold strsD at e; cases e
  | .loc _ :: _, _, _, _, e => by unfold strsD at e; cases e
end
omit [TabEnv] in
/-- a list that may be read (no tuple) -/
def rdlD (c : Stt) : O → Option (List D)
  | .d (.scr ds) => some ds
  | o => lstD c o
theorem rdl_at {K : PySem.W.Frag} {Z F : Hp} {μ : List Addr} {c : Stt} {σ : St} {H : Hp} {v : V} {o : O} {ds : List D} (h : Rel K Z F μ c σ H) (r : RepO K F μ σ v o) (e : rdlD c o = some ds) : ∃ a vs, v = .ref a ∧ SqL K H a vs ∧ Reps K F μ vs ds := by
  unfold rdlD at e
  split at e
  · cases r with
    | d r =>
      cases r with
      | scr hq rs => cases e; exact ⟨_, _, rfl, h.ex.seq hq, rs⟩
  · obtain ⟨a, vs, e1, e2, e3⟩ := lst_at h r e
    exact ⟨a, vs, e1, .of e2, e3⟩
section
variable {K : PySem.W.Frag} {W : WX}
omit [TabEnv] in
def gSum : O → M D := fun a c => match (rdlD c a).bind intsD with
  | some ns => .ok (.v (.int ns.sum)) c
  | none => .no
omit [TabEnv] in
def gAll : O → M D := fun a c => match (rdlD c a).bind blsD with
  | some bs => .ok (.v (.bl (bs.all id))) c
  | none => .no
omit [TabEnv] in
def gAny : O → M D := fun a c => match (rdlD c a).bind blsD with
  | some bs => .ok (.v (.bl (bs.any id))) c
  | none => .no
theorem c1_sum : C1S K W (rSum K) gSum := fun Z F μ c σ H Q x a R rx p => by
  unfold gSum at p
  split at p
  · next ns hn =>
    cases q : rdlD c a with
    | none => rw [q] at hn; cases hn
    | some ds =>
      rw [q] at hn
      obtain ⟨l, vs, rfl, h1, q1⟩ := rdl_at R rx q
      have := ints_of q1 hn
      subst this
      exact ⟨l, ns, rfl, h1, p F μ H (Le.refl _ _) R _ (.v _)⟩
  · exact p.elim
theorem c1_all : C1S K W (rAll K) gAll := fun Z F μ c σ H Q x a R rx p => by
  unfold gAll at p
  split at p
  · next ns hn =>
    cases q : rdlD c a with
    | none => rw [q] at hn; cases hn
    | some ds =>
      rw [q] at hn
      obtain ⟨l, vs, rfl, h1, q1⟩ := rdl_at R rx q
      have := bls_of q1 hn
      subst this
      exact ⟨l, ns, rfl, h1, p F μ H (Le.refl _ _) R _ (.v _)⟩
  · exact p.elim
theorem c1_any : C1S K W (rAny K) gAny := fun Z F μ c σ H Q x a R rx p => by
  unfold gAny at p
  split at p
  · next ns hn =>
    cases q : rdlD c a with
    | none => rw [q] at hn; cases hn
    | some ds =>
      rw [q] at hn
      obtain ⟨l, vs, rfl, h1, q1⟩ := rdl_at R rx q
      have := bls_of q1 hn
      subst this
      exact ⟨l, ns, rfl, h1, p F μ H (Le.refl _ _) R _ (.v _)⟩
  · exact p.elim
omit [TabEnv] in
/-- the greatest, the least of some whole numbers -/
def maxL : List Int → Int
  | [] => 0
  | [x] => x
  | x :: y :: r => if maxL (y :: r) > x then maxL (y :: r) else x
omit [TabEnv] in
def minL : List Int → Int
  | [] => 0
  | [x] => x
  | x :: y :: r => if minL (y :: r) < x then minL (y :: r) else x
omit [TabEnv] in
theorem maxL_mem : ∀ {ns : List Int}, ns ≠ [] → maxL ns ∈ ns
  | [], h => absurd rfl h
  | [x], _ => by simp [maxL]
  | x :: y :: r, _ => by
    unfold maxL
    split
    · exact List.mem_cons_of_mem _ (maxL_mem (by simp))
    · exact List.mem_cons_self
omit [TabEnv] in
theorem maxL_ge : ∀ {ns : List Int} {z : Int}, z ∈ ns → z ≤ maxL ns
  | [], _, h => by simp at h
  | [x], z, h => by
    have : z = x := by simpa using h
    simp [maxL, this]
  | x :: y :: r, z, h => by
    unfold maxL
    rcases List.mem_cons.mp h with e | h
    · subst e
      split <;> omega
    · have := maxL_ge h
      split <;> omega
omit [TabEnv] in
theorem minL_mem : ∀ {ns : List Int}, ns ≠ [] → minL ns ∈ ns
  | [], h => absurd rfl h
  | [x], _ => by simp [minL]
  | x :: y :: r, _ => by
    unfold minL
    split
    · exact List.mem_cons_of_mem _ (minL_mem (by simp))
    · exact List.mem_cons_self
omit [TabEnv] in
theorem minL_le : ∀ {ns : List Int} {z : Int}, z ∈ ns → minL ns ≤ z
  | [], _, h => by simp at h
  | [x], z, h => by
    have : z = x := by simpa using h
    simp [minL, this]
  | x :: y :: r, z, h => by
    unfold minL
    rcases List.mem_cons.mp h with e | h
    · subst e
      split <;> omega
    · have := minL_le h
      split <;> omega
omit [TabEnv] in
def gMaxL : O → M D := fun a c => match (rdlD c a).bind intsD with
  | some ns => if 0 < ns.length then .ok (.v (.int (maxL ns))) c else .no
  | none => .no
omit [TabEnv] in
def gMinL : O → M D := fun a c => match (rdlD c a).bind intsD with
  | some ns => if 0 < ns.length then .ok (.v (.int (minL ns))) c else .no
  | none => .no
theorem c1_max : C1S K W (rMax K) gMaxL := fun Z F μ c σ H Q x a R rx p => by
  unfold gMaxL at p
  split at p
  · next ns hn =>
    split at p
    · next h0 =>
      cases q : rdlD c a with
      | none => rw [q] at hn; cases hn
      | some ds =>
        rw [q] at hn
        obtain ⟨l, vs, rfl, h1, q1⟩ := rdl_at R rx q
        have := ints_of q1 hn
        subst this
        have hne : ns ≠ [] := fun z => by subst z; cases h0
        refine ⟨l, ns, rfl, h1, h0, fun m hm hle => ?_⟩
        have e : m = maxL ns := Int.le_antisymm (maxL_ge hm) (hle _ (maxL_mem hne))
        rw [e]
        exact p F μ H (Le.refl _ _) R _ (.v _)
    · exact p.elim
  · exact p.elim
theorem c1_min : C1S K W (rMin K) gMinL := fun Z F μ c σ H Q x a R rx p => by
  unfold gMinL at p
  split at p
  · next ns hn =>
    split at p
    · next h0 =>
      cases q : rdlD c a with
      | none => rw [q] at hn; cases hn
      | some ds =>
        rw [q] at hn
        obtain ⟨l, vs, rfl, h1, q1⟩ := rdl_at R rx q
        have := ints_of q1 hn
        subst this
        have hne : ns ≠ [] := fun z => by subst z; cases h0
        refine ⟨l, ns, rfl, h1, h0, fun m hm hle => ?_⟩
        have e : m = minL ns := Int.le_antisymm (hle _ (minL_mem hne)) (minL_le hm)
        rw [e]
        exact p F μ H (Le.refl _ _) R _ (.v _)
    · exact p.elim
  · exact p.elim
omit [TabEnv] in
/-- tuple(x) -/
def gTupOf : O → M D := fun a c => match a with
  | .d (.tup ds) => .ok (.tup ds) c
  | a => match rdlD c a with
    | some ds => .ok (.tup ds) c
    | none => .no
theorem c1_tup : C1S K W (fun xs H Q => ∃ p ys, xs = [.ref p] ∧ ((SqL K H p ys ∧ ∀ l, H l = none → Q (.ref l) (upd H l (.tup ys))) ∨ (SqT K H p ys ∧ Q (.ref p) H))) gTupOf := fun Z F μ c σ H Q x a R rx p => by
  unfold gTupOf at p
  split at p
  · next ds =>
    cases rx with
    | d r =>
      have r' := r
      cases r with
      | tup hq rs => exact ⟨_, _, rfl, .inr ⟨Same.seqT R.ex hq, p F μ H (Le.refl _ _) R _ r'⟩⟩
  · split at p
    · next ds hs =>
      obtain ⟨l, vs, rfl, h1, q1⟩ := rdl_at R rx hs
      refine ⟨l, vs, rfl, .inl ⟨h1, fun q hq => ?_⟩⟩
      obtain ⟨R2, l2⟩ := R.new (o := .tup vs) hq
      exact p _ _ _ l2 R2 _ (.tup (.of upd_same) (q1.mono l2))
    · exact p.elim
end
section
variable {X : Cx} {W : WX}
theorem bSum {K : PySem.W.Frag} (hc : X.calm = true) (hK : X.K = K := by rfl) : B1 X W (.builtin "sum") (rSum K) gSum := by
  subst hK
  exact ⟨cr_sum hc, c1_sum⟩
theorem bAll {K : PySem.W.Frag} (hc : X.calm = true) (hK : X.K = K := by rfl) : B1 X W (.builtin "all") (rAll K) gAll := by
  subst hK
  exact ⟨cr_all hc, c1_all⟩
theorem bAny {K : PySem.W.Frag} (hc : X.calm = true) (hK : X.K = K := by rfl) : B1 X W (.builtin "any") (rAny K) gAny := by
  subst hK
  exact ⟨cr_any hc, c1_any⟩
theorem bMax {K : PySem.W.Frag} (hc : X.calm = true) (hK : X.K = K := by rfl) : B1 X W (.builtin "max") (rMax K) gMaxL := by
  subst hK
  exact ⟨cr_max hc, c1_max⟩
theorem bMin {K : PySem.W.Frag} (hc : X.calm = true) (hK : X.K = K := by rfl) : B1 X W (.builtin "min") (rMin K) gMinL := by
  subst hK
  exact ⟨cr_min hc, c1_min⟩
omit [TabEnv] in
def rTupOf (K : PySem.W.Frag) : List V → Hp → VK → Prop := fun xs H Q => ∃ p ys, xs = [.ref p] ∧ ((SqL K H p ys ∧ ∀ l, H l = none → Q (.ref l) (upd H l (.tup ys))) ∨ (SqT K H p ys ∧ Q (.ref p) H))
theorem bTup {K : PySem.W.Frag} (hK : X.K = K := by rfl) : B1 X W (.type "tuple") (rTupOf K) gTupOf := by
  subst hK
  exact ⟨call_tuple_of, c1_tup⟩
end
section
variable {X : Cx} {W : WX} {a b : Expr} {t ta tb : TE} {pos : Pos} {da db : M O}
omit [TabEnv] in
/-- list(x) -/
def dListOf (da : M O) : M (List D) := M.bind da fun a c => match seqD c a with
  | some ds => .ok ds c
  | none => .no
omit [TabEnv] in
def rListOf (K : PySem.W.Frag) : List V → Hp → VK → Prop := fun xs H Q => ∃ p ys, xs = [.ref p] ∧ (SqL K H p ys ∨ SqT K H p ys) ∧ ∀ l, H l = none → Q (.ref l) (upd H l (.lst ys))
theorem en_listOf {K : PySem.W.Frag} {p : Pos} (hg : Gl X "list") (hm : X.mg "list" = none) (hv : bootBuiltins "list" = some (.type "list")) (ha : ED X W a ta da)
    (hs : starEach [a] X.env = (false, eval a X.env) :: starEach [] X.env := by rfl)
    (he : starEach [a] X.env = (false, eval a X.env) :: starEach [] X.env := by rfl) (hpl : (backTo pos (starEach [] X.env)).any (·.1) = false := by rfl) (hK : X.K = K := by rfl) :
    EN X W (.Call (.Name "list" p) [a] [] pos) (tCB (rListOf K) (tCons ta tNil)) (dListOf da) := by
  subst hK
  exact ⟨pe_callTy call_list_of hg hm hv (pa_cons ha.pe pa_nil hs) (by decide) (by decide) he hpl, fun Z F μ c σ H Q R p => ha.ev Z F μ c σ H _ R (p.bind.imp fun o c1 F1 μ1 H1 l1 R1 p1 v1 r1 => by
    split at p1
    · next ds hs =>
      obtain ⟨l, vs, rfl, h1, q1⟩ := seq_at R1 r1 hs
      refine ⟨l, vs, rfl, h1, fun q hq => ?_⟩
      exact p1 F1 μ1 _ (Le.refl _ _) (R1.up (same_new hq)) q vs upd_same (R1.nob hq) q1
    · exact p1.elim)⟩
omit [TabEnv] in
/-- max, min of two whole numbers -/
def g2I (f : Int → Int → Int) : List D → M D := fun ds c => match ds with
  | [.v (.int i), .v (.int j)] => .ok (.v (.int (f i j))) c
  | _ => .no
omit [TabEnv] in
def r2C (f : Int → Int → Int) : List V → Hp → VK → Prop := fun xs H Q => ∃ i j, xs = [.int i, .int j] ∧ Q (.int (f i j)) H
omit [TabEnv] in
def fMax (i j : Int) : Int := if j > i then j else i
omit [TabEnv] in
def fMin (i j : Int) : Int := if j < i then j else i
theorem dd_b2 {id : String} {x : Str} {p : Pos} {f : Int → Int → Int} {tr : TA} {dr : M (List D)} (hc : CallR X (.builtin id) (r2C f)) (hg : Gl X x) (hm : X.mg x = none) (hv : bootBuiltins x = some (.builtin id)) (ha : AD X W [a, b] tr dr)
    (hn : x ≠ "__name__" := by decide) (hdb : (x == ("__debug__" : Str)) = false := by decide)
    (he : starEach [a, b] X.env = (false, eval a X.env) :: starEach [b] X.env := by rfl) (hpl : (backTo pos (starEach [b] X.env)).any (·.1) = false := by rfl) :
    DD X W (.Call (.Name x p) [a, b] [] pos) (tCB (r2C f) tr) (M.bind dr (g2I f)) :=
  ⟨pe_callB hc hg hm hv ha.pa hn hdb he hpl, fun Z F μ c σ H Q R p => ha.ev Z F μ c σ H _ R (p.bind.imp fun ds c1 F1 μ1 H1 l1 R1 p1 vs rs => by
    unfold g2I at p1
    split at p1
    · cases rs with
      | cons r rs =>
        cases r
        cases rs with
        | cons r rs =>
          cases r
          cases rs
          exact ⟨_, _, rfl, p1 F1 μ1 H1 (Le.refl _ _) R1 _ (.v _)⟩
    · exact p1.elim)⟩
omit [TabEnv] in
theorem call_max2' (hc : X.calm = true) : CallR X (.builtin "max") (r2C fMax) := call_max2 hc
omit [TabEnv] in
theorem call_min2' (hc : X.calm = true) : CallR X (.builtin "min") (r2C fMin) := call_min2 hc
omit [TabEnv] in
/-- divmod -/
def gDm : List D → M D := fun ds c => match ds with
  | [.v (.int i), .v (.int j)] => if 0 < j ∧ j.natAbs.log2 < 9000 then .ok (.tup [.v (.int (i / j)), .v (.int (i % j))]) c else .no
  | _ => .no
omit [TabEnv] in
def rDm : List V → Hp → VK → Prop := fun xs H Q => ∃ i j, xs = [.int i, .int j] ∧ (0 < j ∧ j.natAbs.log2 < 9000) ∧ ∀ p, H p = none → Q (.ref p) (upd H p (.tup [.int (i / j), .int (i % j)]))
omit [TabEnv] in
theorem call_divmodW : CallR X (.builtin "divmod") rDm := by
  intro pins s σ H xs us Q I r h
  obtain ⟨i, j, rfl, ⟨h1, h2⟩, q⟩ := h
  obtain ⟨u, w', rfl, ⟨t, rfl⟩, ⟨t', rfl⟩⟩ := vals2 r
  have hj : j ≠ 0 := by omega
  have hj0 : 0 ≤ j := by omega
  refine PyProof.Rows.divmod_int hj ?_ (.inl (PyProof.noPylong_of_log2 h2))
  rw [Int.fdiv_eq_ediv_of_nonneg i hj0, Int.fmod_eq_emod_of_nonneg i hj0]
  have hn := I.fresh
  have two : (2 : Nat) ≤ sizeLine := by decide
  have va : Vals [V.int (i / j), V.int (i % j)] [.int (i / j) s.toks, .int (i % j) (s.toks + 1)] := Vals.append (xs := [V.int (i / j)]) (us := [.int (i / j) s.toks]) (.cons ⟨_, rfl⟩ .nil) (.cons ⟨_, rfl⟩ .nil)
  refine ⟨.ref s.heap.objs.size, _, ?_, rfl, q _ hn⟩
  exact I.laid (fun _ _ z => Heap.get?_push_of_some _ z) (Nat.le_refl _) ⟨two, _, va, ⟨_, Heap.get?_push_size s.heap rfl, rfl, 0, rfl⟩⟩
theorem dd_divmod {x : Str} {p : Pos} {tr : TA} {dr : M (List D)} (hg : Gl X "divmod") (hm : X.mg "divmod" = none) (hv : bootBuiltins "divmod" = some (.builtin "divmod")) (ha : AD X W [a, b] tr dr)
    (he : starEach [a, b] X.env = (false, eval a X.env) :: starEach [b] X.env := by rfl) (hpl : (backTo pos (starEach [b] X.env)).any (·.1) = false := by rfl) :
    DD X W (.Call (.Name "divmod" p) [a, b] [] pos) (tCB rDm tr) (M.bind dr gDm) :=
  ⟨pe_callB call_divmodW hg hm hv ha.pa (by decide) (by decide) he hpl, fun Z F μ c σ H Q R p => ha.ev Z F μ c σ H _ R (p.bind.imp fun ds c1 F1 μ1 H1 l1 R1 p1 vs rs => by
    unfold gDm at p1
    split at p1
    · split at p1
      · next hz =>
        cases rs with
        | cons r rs =>
          cases r
          cases rs with
          | cons r rs =>
            cases r
            cases rs
            refine ⟨_, _, rfl, hz, fun q hq => ?_⟩
            obtain ⟨R2, l2⟩ := R1.new (o := .tup [.int _, .int _]) hq
            exact p1 _ _ _ l2 R2 _ (.tup (.of upd_same) (.cons (.v _) (.cons (.v _) .nil)))
      · exact p1.elim
    · exact p1.elim)⟩

/-! ### slices -/
structure OD (X : Cx) (W : WX) (e : Option Expr) (t : TO) (d : M (Option Int)) : Prop where
  po : PO X e t
  ev : ∀ (Z F : Hp) (μ : List Addr) (c : Stt) (σ : St) (H : Hp) (Q : Option Int → Hp → Prop), Rel X.K Z F μ c σ H → Post X.K Z F μ σ W (d c) (fun o _ _ _ H' => Q o H') → t σ H Q
theorem od_none : OD X W none tNoPart (M.pure none) := ⟨po_none, fun Z F μ c σ H Q R p => p F μ H (Le.refl _ _) R⟩
omit [TabEnv] in
def gPart (o : O) : M (Option Int) := fun c => match o with
  | .d (.v (.int i)) => .ok (some i) c
  | _ => .no
theorem od_some (h : ED X W a ta da) : OD X W (some a) (tPart ta) (M.bind da gPart) := ⟨po_some h.pe, fun Z F μ c σ H Q R p => h.ev Z F μ c σ H _ R (p.bind.imp fun o c1 F1 μ1 H1 l1 R1 p1 v1 r1 => by
  unfold gPart at p1
  split at p1
  · cases r1 with | d r => cases r; exact ⟨_, rfl, p1 F1 μ1 H1 (Le.refl _ _) R1⟩
  · exact p1.elim)⟩
omit [TabEnv] in
def cutL {α : Type} (xs : List α) (lo hi : Option Int) : List α := (xs.drop (HT.sIx xs.length 0 lo)).take (HT.sIx xs.length xs.length hi - HT.sIx xs.length 0 lo)
omit [TabEnv] in
theorem reps_cut {K : PySem.W.Frag} {F : Hp} {μ : List Addr} {vs : List V} {ds : List D} (r : Reps K F μ vs ds) (lo hi : Option Int) : Reps K F μ (cutV vs lo hi) (cutL ds lo hi) := by
  unfold cutV cutL
  rw [r.length]
  exact (r.drop _).take _
omit [TabEnv] in
def dSlL (da : M O) (dl du : M (Option Int)) : M (List D) := M.bind da fun o => M.bind dl fun lo => M.bind du fun hi c => match rdlD c o with
  | some ds => .ok (cutL ds lo hi) c
  | none => .no
theorem en_slice {K : PySem.W.Frag} {lo hi : Option Expr} {tl th : TO} {dl du : M (Option Int)} {p2 : Pos} (h : ED X W a ta da) (hl : OD X W lo tl dl) (hu : OD X W hi th du) (hK : X.K = K := by rfl) : EN X W (.Subscript a (.Slice lo hi none p2) pos) (tSl (rSlL K) ta tl th) (dSlL da dl du) := by
  subst hK
  exact ⟨pe_slice sl_list h.pe hl.po hu.po, fun Z F μ c σ H Q R p => h.ev Z F μ c σ H _ R (p.bind.imp fun o c1 F1 μ1 H1 l1 R1 p1 v1 r1 => hl.ev Z F1 μ1 c1 σ H1 _ R1 (p1.bind.imp fun l c2 F2 μ2 H2 l2 R2 p2 => hu.ev Z F2 μ2 c2 σ H2 _ R2 (p2.bind.imp fun u c3 F3 μ3 H3 l3 R3 p3 => by
    split at p3
    · next ds hs =>
      obtain ⟨l, vs, rfl, h1, q1⟩ := rdl_at R3 ((r1.mono l2).mono l3) hs
      refine ⟨l, vs, rfl, h1, fun q hq => ?_⟩
      exact p3 F3 μ3 _ (Le.refl _ _) (R3.up (same_new hq)) q _ upd_same (R3.nob hq) (reps_cut q1 _ _)
    · exact p3.elim)))⟩
omit [TabEnv] in
def dRev (da : M O) : M (List D) := M.bind da fun o c => match rdlD c o with
  | some ds => .ok ds.reverse c
  | none => .no
omit [TabEnv] in
theorem reps_rev {K : PySem.W.Frag} {F : Hp} {μ : List Addr} : ∀ {vs : List V} {ds : List D}, Reps K F μ vs ds → Reps K F μ vs.reverse ds.reverse
  | _, _, .nil => .nil
  | _, _, .cons h r => by
    rw [List.reverse_cons, List.reverse_cons]
    exact (reps_rev r).snoc h
theorem en_rev {K : PySem.W.Frag} {k : Nat} {p1 p2 p3 : Pos} (h : ED X W a ta da) (hK : X.K = K := by rfl) : EN X W (.Subscript a (.Slice none none (some (.UnaryOp .USub (.Constant (.int 1) k p1) p2)) p3) pos) (tRevL K ta) (dRev da) := by
  subst hK
  exact ⟨pe_revL h.pe, fun Z F μ c σ H Q R p => h.ev Z F μ c σ H _ R (p.bind.imp fun o c1 F1 μ1 H1 l1 R1 p1 v1 r1 => by
    split at p1
    · next ds hs =>
      obtain ⟨l, vs, rfl, h1, q1⟩ := rdl_at R1 r1 hs
      refine ⟨l, vs, rfl, h1, fun q hq => ?_⟩
      exact p1 F1 μ1 _ (Le.refl _ _) (R1.up (same_new hq)) q _ upd_same (R1.nob hq) (reps_rev q1)
    · exact p1.elim)⟩

/-! ### lists that are changed -/
omit [TabEnv] in
def mutD (c : Stt) : O → Option (List D)
  | .d (.loc n) => match c.S[n]? with
    | some (.lst ds) => some ds
    | _ => none
  | .sl i => match c.r[i]? with
    | some (.own (.lst ds)) => some ds
    | _ => none
  | _ => none
omit [TabEnv] in
def putL (o : O) (ds : List D) (c : Stt) : Stt := match o with
  | .d (.loc n) => ⟨c.r, c.S.set n (.lst ds)⟩
  | .sl i => ⟨c.r.set i (.own (.lst ds)), c.S⟩
  | _ => c
theorem mut_at {K : PySem.W.Frag} {Z F : Hp} {μ : List Addr} {c : Stt} {σ : St} {H : Hp} {v : V} {o : O} {ds : List D} (h : Rel K Z F μ c σ H) (r : RepO K F μ σ v o) (e : mutD c o = some ds) :
    ∃ a vs, v = .ref a ∧ H a = some (.lst vs) ∧ Reps K F μ vs ds ∧ ∀ ws es, Reps K F μ ws es → Rel K Z F μ (putL o es c) σ (upd H a (.lst ws)) := by
  unfold mutD at e
  split at e
  · next n =>
    split at e
    · next es hs =>
      cases e
      cases r with
      | d r =>
        cases r with
        | loc hn =>
          obtain ⟨_, _, ⟨u, e1, e2⟩, _⟩ := h.sto _ _ _ hn hs
          cases e2 with
          | lst r => exact ⟨_, _, rfl, e1, r, fun ws es rs => h.put hs trivial hn (.lst rs)⟩
    · cases e
  · next i =>
    split at e
    · next es hs =>
      cases e
      cases r with
      | sl r =>
        obtain ⟨a, e1, ⟨_, _, ⟨u, e2, e3⟩, _⟩, _⟩ := h.own i _ hs
        rw [r] at e1; cases e1
        cases e3 with
        | lst rs => exact ⟨_, _, rfl, e2, rs, fun ws es rs => h.write hs r (.lst rs) trivial⟩
    · cases e
  · cases e
omit [TabEnv] in
/-- o.append(e) -/
def dApp (da : M O) (de : M D) : M D := M.bind da fun o c => match mutD c o with
  | some _ => M.bind de (fun x c => match mutD c o with
      | some ds => if ds.length < 1000000 then .ok (.v .non) (putL o (ds ++ [x]) c) else .no
      | none => .no) c
  | none => .no
omit [TabEnv] in
theorem lt6 {n : Nat} (h : n < 1000000) : n < sizeLine := Nat.lt_of_lt_of_le h (by decide)
theorem dd_append {K : PySem.W.Frag} {te : TE} {de : M D} {apos : Pos} (ho : ED X W a ta da) (he : DD X W b te de)
    (hbase : attributeBase a "append" X.env (eval a X.env) = eval a X.env := by rfl)
    (hfew : ((backTo pos (starEach [b] X.env)).all (fun x => !x.1) && (backToKw pos (keywordEach [] X.env)).all (fun x => x.1.isSome)
      && decide (([b] : List Expr).length + ([] : List Keyword).length + (if ([] : List Keyword).isEmpty then 0 else 1) < 30)) = true := by rfl)
    (hline : (apos.endLine == pos.line) = true := by rfl) (hs : starEach [b] X.env = (false, eval b X.env) :: starEach [] X.env := by rfl) (hplain : (backTo pos (starEach [] X.env)).any (·.1) = false := by rfl)
    (hs2 : starEach [b] X.env = (false, eval b X.env) :: starEach [] X.env := by rfl) (hK : X.K = K := by rfl) :
    DD X W (.Call (.Attribute a "append" apos) [b] [] pos) (tBM K "list" rAppend ta (tCons te tNil)) (dApp da de) := by
  subst hK
  exact ⟨pe_bm PySem.F.plainAttrs_list PySem.F.slot_list_append PySem.F.type_list_append mt_append ho.pe (pa_cons he.pe pa_nil hs2) hbase hfew hline hs hplain, fun Z F μ c σ H Q R p => ho.ev Z F μ c σ H _ R (p.bind.imp fun o c1 F1 μ1 H1 l1 R1 p1 v1 r1 => by
    split at p1
    · next ds0 hs0 =>
      obtain ⟨a0, vs0, rfl, h0, _, _⟩ := mut_at R1 r1 hs0
      refine ⟨.inl ⟨rfl, _, .of h0⟩, he.ev Z F1 μ1 c1 σ H1 _ R1 (p1.bind.imp fun x c2 F2 μ2 H2 l2 R2 p2 v2 r2 => ?_)⟩
      split at p2
      · next ds hs =>
        split at p2
        · next hz =>
          obtain ⟨a2, vs2, e2, h2, rs, k⟩ := mut_at R2 (r1.mono l2) hs
          cases e2
          exact ⟨_, vs2, v2, rfl, rfl, h2, lt6 (by rw [rs.length]; exact hz), p2 F2 μ2 _ (Le.refl _ _) (k _ _ (rs.snoc r2)) _ (.v _)⟩
        · exact p2.elim
      · exact p2.elim
    · exact p1.elim)⟩

/-! ### isinstance, by built-in classes -/
omit [TabEnv] in
def tagD : D → Option String
  | .v .non => some "NoneType"
  | .v (.bl _) => some "bool"
  | .v (.int _) => some "int"
  | .v (.str _) => some "str"
  | .tup _ => some "tuple"
  | .lst _ => some "list"
  | .dct _ => some "dict"
  | _ => none
omit [TabEnv] in
def isiT (t c : String) : Option Bool :=
  if ["NoneType", "bool", "int", "str", "tuple", "list", "dict"].contains t && ["bool", "int", "str", "tuple", "list", "dict"].contains c then some (t == c || (t == "bool" && c == "int")) else none
omit [TabEnv] in
theorem isi_kit {K : PySem.W.Frag} {t c : String} {b : Bool} (h : isiT t c = some b) : PySem.W.kitOne K (.type t) (.type c) = some b := by
  unfold isiT at h
  split at h
  · next hh =>
    rw [Bool.and_eq_true] at hh
    have h1 : t = "NoneType" ∨ t = "bool" ∨ t = "int" ∨ t = "str" ∨ t = "tuple" ∨ t = "list" ∨ t = "dict" := by simpa using hh.1
    have h2 : c = "bool" ∨ c = "int" ∨ c = "str" ∨ c = "tuple" ∨ c = "list" ∨ c = "dict" := by simpa using hh.2
    apply kit_ty
    rw [← h]
    rcases h1 with rfl | rfl | rfl | rfl | rfl | rfl | rfl <;> rcases h2 with rfl | rfl | rfl | rfl | rfl | rfl <;> decide +kernel
  · cases h
omit [TabEnv] in
theorem ty_of {K : PySem.W.Frag} {F H : Hp} {μ : List Addr} {v : V} {d : D} {t : String} (ex : Same F H) (r : Rep K F μ v d) (e : tagD d = some t) : TyX K H v (.type t) := by
  cases r with
  | v => cases v <;> cases e <;> exact .base (by constructor)
  | tup hq rs =>
    cases e
    rcases hq with (h | ⟨o, h⟩) | ⟨o, its, n, hk, hc, _⟩
    · exact .base (.tup (ex _ _ h))
    · exact .fTuple (ex _ _ h)
    · exact .kTuple hk hc
  | lst hq rs => cases e; exact .base (.lst (ex _ _ hq))
  | dct hq _ _ => cases e; exact .base (.dK (ex _ _ hq))
  | _ => cases e
omit [TabEnv] in
def gIsi (cl : String) : D → M D := fun x c => match (tagD x).bind fun t => isiT t cl with
  | some b => .ok (.v (.bl b)) c
  | none => .no
theorem dd_isi {K : PySem.W.Frag} {x : Str} {cl : String} {p q : Pos} {dx : M D} (hg : Gl X "isinstance") (hm : X.mg "isinstance" = none) (hv : bootBuiltins "isinstance" = some (.builtin "isinstance")) (ha : DD X W a ta dx) (hg2 : Gl X x) (hm2 : X.mg x = none) (hv2 : bootBuiltins x = some (.type cl))
    (hs : starEach [a, .Name x q] X.env = (false, eval a X.env) :: starEach [.Name x q] X.env := by rfl) (hs2 : starEach [.Name x q] X.env = (false, eval (.Name x q) X.env) :: starEach [] X.env := by rfl) (hn : x ≠ "__name__" := by decide) (hdb : (x == ("__debug__" : Str)) = false := by decide)
    (he : starEach [a, .Name x q] X.env = (false, eval a X.env) :: starEach [.Name x q] X.env := by rfl) (hpl : (backTo pos (starEach [.Name x q] X.env)).any (·.1) = false := by rfl) (hK : X.K = K := by rfl) :
    DD X W (.Call (.Name "isinstance" p) [a, .Name x q] [] pos) (tCB (rIsi K) (tCons ta (tCons (tC (.ty cl)) tNil))) (M.bind dx (gIsi cl)) := by
  subst hK
  exact ⟨pe_callB call_isi hg hm hv (pa_cons ha.pe (pa_cons (pe_bltn hg2 hm2 hv2 rfl hn hdb) pa_nil hs2) hs) (by decide) (by decide) he hpl, fun Z F μ c σ H Q R p => ha.ev Z F μ c σ H _ R (p.bind.imp fun x c1 F1 μ1 H1 l1 R1 p1 v1 r1 => by
    unfold gIsi at p1
    split at p1
    · next b hb =>
      cases ht : tagD x with
      | none => rw [ht] at hb; cases hb
      | some t =>
        rw [ht] at hb
        exact ⟨v1, .ty cl, .type t, .type cl, b, rfl, .ty cl, ty_of R1.ex r1 ht, isi_kit hb, p1 F1 μ1 H1 (Le.refl _ _) R1 _ (.v _)⟩
    · exact p1.elim)⟩
end

/-! ### the defs of a text -/
omit [TabEnv] in
/-- where a def stands -/
def Has (K : PySem.W.Frag) (mg : Str → Option Value) (x qual : Str) (st : Stmt) (ps : List Str) : Prop := ∃ f fd, Fun K x qual st f fd ∧ mg x = some (.ref f) ∧ ∀ us : List Value, us.length = ps.length → bindArgs fd ⟨us, []⟩ = pure (ps.zip us)
/-- a def of that name computes g -/
def Okf (P : Program) (w : World) (K : PySem.W.Frag) (mg : Str → Option Value) (base : Heap) (k : Nat) (x : Str) (ps : List Str) (g : G) : Prop :=
  ∃ f fd, FnOk P w K mg base (L2N.CX P w) k f fd ps (spG K g) ∧ mg x = some (.ref f) ∧ PySem.W.keepIn K (.ref f) = true ∧ ∀ us : List Value, us.length = ps.length → bindArgs fd ⟨us, []⟩ = pure (ps.zip us)
section
variable {X : Cx} {W : WX} {a : Expr} {es : List Expr} {pos : Pos} {tr : TA} {dr : M (List D)}
theorem dd_fn {K : PySem.W.Frag} {k : Nat} {ps : List Str} {g : G} {x : Str} {p : Pos} (h : Okf X.prog X.w X.K X.mg X.base k x ps g) (hr : Room k X.A) (hg : Gl X x) (hx : Pol X W) (ha : AD X W (a :: es) tr dr)
    (hdb : (x == ("__debug__" : Str)) = false := by decide) (he : starEach (a :: es) X.env = (false, eval a X.env) :: starEach es X.env := by rfl) (hpl : (backTo pos (starEach es X.env)).any (·.1) = false := by rfl) (hK : X.K = K := by rfl) :
    DD X W (.Call (.Name x p) (a :: es) [] pos) (tCallS (spG K g) (WE W) tr) (dCall g dr) := by
  subst hK
  obtain ⟨f, fd, F, hm, hk, hb⟩ := h
  exact dd_call F hr hg hm hk (.all hb) hx ha hdb he hpl
end
theorem ok_has {P : Program} {w : World} {K : PySem.W.Frag} {mg : Str → Option Value} {base : Heap} {x qual : Str} {st : Stmt} {N ps : List Str} {j k : Nat} {b : M Fl} (h : Has K mg x qual st ps) (S : FnScope N ps (defScope st)) (hk : ps.length = k) (hN : k ≤ N.length)
    (body : ∀ (f : Addr) (cdv : Value) (A : Around) (outer : List Env) (s : Shared) (H : Hp) (E : XK), Room j (A.deeper (PyProof.Rows.envOfC qual (defScope st) s.heap.objs.size f cdv)) →
      ∃ t, BD (cxOf (L2N.CX P w) P w K mg base N qual (defScope st) f cdv A outer s H E) (fun cls d _ H => E cls d H) (defBody st) t b) : Okf P w K mg base (j + 1) x ps (runD N.length k b) := by
  obtain ⟨f, fd, F, hm, hb⟩ := h
  exact ⟨f, fd, fn_ok F S hk hN (body f), hm, F.kp, hb⟩
theorem Okf.by {P : Program} {w : World} {K : PySem.W.Frag} {mg : Str → Option Value} {base : Heap} {k : Nat} {x : Str} {ps : List Str} {g g' : G} (h : Okf P w K mg base k x ps g) (e : ∀ ds S, g' ds S ≠ .no → g ds S = g' ds S) : Okf P w K mg base k x ps g' := by
  obtain ⟨f, fd, F, hm, hk, hb⟩ := h
  exact ⟨f, fd, FnOk.by F e, hm, hk, hb⟩
end My

set_option Elab.async false
set_option linter.all false
set_option maxRecDepth 100000
set_option maxHeartbeats 4000000
/-! F8: the end of a law. -/
namespace My
open PySem L2
variable [TabEnv]
omit [TabEnv] in
theorem has_of {K : PySem.W.Frag} {h : Heap} {mg : Str → Option Value} {f : Addr} {x qual : Str} {st : Stmt} {ps : List Str} {od an : Option Addr} {sl : Array (Option Value)} {oc kV dc pm cd ct : Value} (X : K.In h) (G : h.Ns mainGlobals mg)
    (b : ∀ (kV doc pm : Value) (an : Option Addr) (cdv ct : Value) (us : List Value), us.length = ps.length → bindArgs (PySem.W.fnOf x qual (defArgs st) (defBody st) (defScope st) .none kV doc pm an cdv ct) ⟨us, []⟩ = pure (ps.zip us))
    (a : PySem.W.nsIn K mainGlobals x = some (some (.ref f))) (l : K.lookup f = some ⟨oc, od, .func (PySem.W.fnOf x qual (defArgs st) (defBody st) (defScope st) .none kV dc pm an cd ct), sl⟩) (c : PySem.W.codeIn K cd qual = true) (k : PySem.W.keepIn K (.ref f) = true) : Has K mg x qual st ps :=
  let F := fun_mk (st := st) l c k
  ⟨f, _, F, PySem.W.mg_of X G a, b kV dc pm an cd ct⟩
omit [TabEnv] in
def scr (ns : List Int) : D := .scr (ns.map fun n => .v (.int n))
omit [TabEnv] in
theorem reps_ints {K : PySem.W.Frag} {F : Hp} {μ : List Addr} : ∀ ns : List Int, Reps K F μ (ns.map V.int) (ns.map fun n => .v (.int n))
  | [] => .nil
  | n :: ns => .cons (.v _) (reps_ints ns)
omit [TabEnv] in
theorem cx_end (P : Program) (w : World) (H : Hp) (s : Shared) (e : Value) (s' : Shared) : L2N.CX P w [] H s (fun _ _ _ => False) e s' → False := fun h => by
  obtain ⟨_, _, _, _, _, _, _, _, _, _, _, _, z⟩ := h
  exact z
/-- the law's def, as the end wants it -/
theorem law_ok {P : Program} {w : World} {K : PySem.W.Frag} {mg : Str → Option Value} {fa : Addr} {x p : Str} {k : Nat} {g : G} (hfa : mg x = some (.ref fa)) (d : ∃ f fd, mg x = some (.ref f) ∧ (∀ us : List Value, us.length = 1 → bindArgs fd ⟨us, []⟩ = pure ([p].zip us)) ∧ ∀ base : Heap, K.In base → base.Ns mainGlobals mg → FnOk P w K mg base (L2N.CX P w) k f fd [p] (spG K g)) :
    ∃ fd : FuncData, (∀ (s : Shared) (v : Value), BindsTo s fd ⟨[v], []⟩ [(p, v)]) ∧ ∀ base : Heap, K.In base → base.Ns mainGlobals mg → FnOk P w K mg base (L2N.CX P w) k fa fd [p] (spG K g) := by
  obtain ⟨f, fd, h1, h2, h3⟩ := d
  have e := hfa.symm.trans h1
  cases e
  exact ⟨fd, fun s v => .of_eq (h2 [v] rfl), h3⟩
end My

set_option Elab.async false
set_option linter.all false
set_option maxRecDepth 100000
set_option maxHeartbeats 4000000
/-! F9: reckoning with images: loops, comprehensions, sizes. -/
namespace My
open PySem L2
variable [TabEnv]

/-! ### sizes -/
omit [TabEnv] in
theorem mulOk_l {i j : Int} (h : i.natAbs < 2 ^ 64) : mulOk i j := .inl (.inl (by omega))
omit [TabEnv] in
theorem mulOk_r {i j : Int} (h : j.natAbs < 2 ^ 64) : mulOk i j := .inl (.inr (by omega))
omit [TabEnv] in
theorem log2_lt {n k : Nat} (hk : 0 < k) (h : n < 2 ^ k) : n.log2 < k := PySem.Flt.log2_lt_of hk h
omit [TabEnv] in
theorem mulOk_b {i j : Int} {a b : Nat} (ha : i.natAbs < 2 ^ a) (hb : j.natAbs < 2 ^ b) (h0 : 0 < a) (h1 : 0 < b) (h : a + b ≤ 1000000) : mulOk i j := .inr (wide_mul ha hb h0 h1 h)
omit [TabEnv] in
theorem divOk_b {j : Int} {b : Nat} (h : j ≠ 0) (hb : j.natAbs < 2 ^ b) (h0 : 0 < b) (h9 : b ≤ 9000) : divOk j := ⟨h, Nat.lt_of_lt_of_le (log2_lt h0 hb) h9⟩
omit [TabEnv] in
theorem divOk_s {j : Int} (h : j ≠ 0) (hb : j.natAbs < 2 ^ 64) : divOk j := divOk_b h hb (by decide) (by decide)

/-! ### for -/
section
variable {dg : D → M Unit} {db : M Fl}
omit [TabEnv] in
/-- one turn after another, with something that stays -/
theorem itF_inv {Inv : Nat → Stt → Prop} : ∀ (ds : List D) (i : Nat) (c : Stt), Inv i c → (∀ (j : Nat) (d : D) (c : Stt), ds[j]? = some d → Inv (i + j) c → ∃ c1, dg d c = .ok () c1 ∧ ∃ f c2, db c1 = .ok f c2 ∧ (f = .nx ∨ f = .ct) ∧ Inv (i + j + 1) c2) →
    ∃ c', itF dg db ds c = .ok .nx c' ∧ Inv (i + ds.length) c'
  | [], i, c, h, _ => ⟨c, rfl, h⟩
  | d :: r, i, c, h, t => by
    obtain ⟨c1, e1, f, c2, e2, hf, h2⟩ := t 0 d c rfl h
    obtain ⟨c', e3, h3⟩ := itF_inv r (i + 1) c2 h2 fun j d' c' q hc => by
      have := t (j + 1) d' c' (by simpa using q) (by rw [← Nat.add_assoc, Nat.add_right_comm]; exact hc)
      simpa [Nat.add_assoc, Nat.add_comm, Nat.add_left_comm] using this
    refine ⟨c', ?_, by simpa [Nat.add_assoc, Nat.add_comm, Nat.add_left_comm] using h3⟩
    unfold itF M.bind M.ne
    rw [e1]
    dsimp only
    rw [e2]
    rcases hf with rfl | rfl <;> exact e3
omit [TabEnv] in
/-- a fold -/
theorem itF_fold {α : Type} {enc : α → Stt} {step : α → D → α} : ∀ (ds : List D) (s : α), (∀ (s : α) (d : D), d ∈ ds → ∃ c1, dg d (enc s) = .ok () c1 ∧ ∃ f, db c1 = .ok f (enc (step s d)) ∧ (f = .nx ∨ f = .ct)) → itF dg db ds (enc s) = .ok .nx (enc (ds.foldl step s))
  | [], s, _ => rfl
  | d :: r, s, t => by
    obtain ⟨c1, e1, f, e2, hf⟩ := t s d List.mem_cons_self
    have e3 := itF_fold r (step s d) fun s d' h => t s d' (List.mem_cons_of_mem _ h)
    unfold itF M.bind M.ne
    rw [e1]
    dsimp only
    rw [e2]
    rcases hf with rfl | rfl <;> exact e3
end
omit [TabEnv] in
theorem itF_nil {dg : D → M Unit} {db : M Fl} {c : Stt} : itF dg db [] c = .ok .nx c := rfl
omit [TabEnv] in
theorem itF_cons {dg : D → M Unit} {db : M Fl} {d : D} {r : List D} {c c1 : Stt} (h : dg d c = .ok () c1) : itF dg db (d :: r) c = M.bind db (fun f => match f with
    | .nx => itF dg db r
    | .ct => itF dg db r
    | .bk => M.pure .nx
    | .rt x => M.pure (.rt x)) c1 := by
  show M.bind (M.ne (dg d)) _ c = _
  have e : M.ne (dg d) c = .ok () c1 := by
    unfold M.ne
    rw [h]
  conv => lhs; unfold M.bind
  rw [e]
  rfl
omit [TabEnv] in
/-- a row that is searched: the first one that returns -/
theorem itF_ret {dg : D → M Unit} {db : M Fl} {d : D} {r : List D} {c c1 c2 : Stt} {x : D} (h : dg d c = .ok () c1) (h2 : db c1 = .ok (.rt x) c2) : itF dg db (d :: r) c = .ok (.rt x) c2 := by
  rw [itF_cons h]
  unfold M.bind
  rw [h2]
  rfl
omit [TabEnv] in
theorem itF_next {dg : D → M Unit} {db : M Fl} {d : D} {r : List D} {c c1 c2 : Stt} (h : dg d c = .ok () c1) (h2 : db c1 = .ok .nx c2) : itF dg db (d :: r) c = itF dg db r c2 := by
  rw [itF_cons h]
  unfold M.bind
  rw [h2]
/-! ### comprehensions -/
omit [TabEnv] in
theorem itL_map {dg : D → M Unit} {dt : M Bool} {de : M D} {vs : List Nat} {r0 : List Slot} {w : List Slot} {S : List Cell} {p : D → Bool} {f : D → D} : ∀ (ds acc : List D) (c : Stt), wipeD c.r vs = w → c.S = S → acc.length + ds.length ≤ 1000000 →
    (∀ d ∈ ds, ∃ c1, dg d ⟨w, S⟩ = .ok () c1 ∧ ∃ c2, dt c1 = .ok (p d) c2 ∧ wipeD c2.r vs = w ∧ c2.S = S ∧ (p d = true → ∃ c3, de c2 = .ok (f d) c3 ∧ wipeD c3.r vs = w ∧ c3.S = S)) →
    itL dg dt de vs r0 ds acc c = .ok (acc ++ (ds.filter p).map f) ⟨w, S⟩
  | [], acc, c, hw, hS, _, _ => by
    unfold itL
    rw [hw, hS]
    simp
  | d :: r, acc, c, hw, hS, hz, t => by
    obtain ⟨c1, e1, c2, e2, w2, s2, k⟩ := t d List.mem_cons_self
    unfold itL M.bind M.ne
    rw [hw, hS, e1]
    dsimp only
    rw [e2]
    dsimp only
    have hz' : acc.length < 1000000 := by simp at hz; omega
    cases q : p d with
    | false =>
      rw [if_neg Bool.false_ne_true]
      rw [itL_map r acc c2 w2 s2 (by simp at hz ⊢; omega) fun d' h => t d' (List.mem_cons_of_mem _ h)]
      rw [List.filter_cons, q]
      rfl
    | true =>
      obtain ⟨c3, e3, w3, s3⟩ := k q
      rw [if_pos rfl, e3]
      dsimp only
      rw [if_pos hz']
      rw [itL_map r (acc ++ [f d]) c3 w3 s3 (by simp at hz ⊢; omega) fun d' h => t d' (List.mem_cons_of_mem _ h)]
      rw [List.filter_cons, q]
      simp
omit [TabEnv] in
theorem dLc_map {di : M (List D)} {dg : D → M Unit} {dt : M Bool} {de : M D} {vs : List Nat} {c c0 : Stt} {ds : List D} (p : D → Bool) (f : D → D) (hi : di c = .ok ds c0) (hz : ds.length ≤ 1000000)
    (t : ∀ d ∈ ds, ∃ c1, dg d ⟨wipeD c0.r vs, c0.S⟩ = .ok () c1 ∧ ∃ c2, dt c1 = .ok (p d) c2 ∧ wipeD c2.r vs = wipeD c0.r vs ∧ c2.S = c0.S ∧ (p d = true → ∃ c3, de c2 = .ok (f d) c3 ∧ wipeD c3.r vs = wipeD c0.r vs ∧ c3.S = c0.S)) :
    dLc di dg dt de vs c = .ok ((ds.filter p).map f) ⟨backD c0.r (wipeD c0.r vs) vs, c0.S⟩ := by
  unfold dLc M.bind
  rw [hi]
  dsimp only
  rw [itL_map (p := p) (f := f) ds [] c0 rfl rfl (by simpa using hz) t]
  simp
/-! ### while -/
omit [TabEnv] in
theorem dWhile_inv {dc : M Bool} {db : M Fl} {Inv : Nat → Stt → Prop} {Done : Stt → Prop} (t : ∀ (m : Nat) (c : Stt), Inv m c → ∃ k c1, dc c = .ok k c1 ∧ (k = false → Done c1) ∧ (k = true → ∃ f c2, db c1 = .ok f c2 ∧ (((f = .nx ∨ f = .ct) ∧ ∃ m', m' < m ∧ Inv m' c2) ∨ (f = .bk ∧ Done c2)))) :
    ∀ (m : Nat) (c : Stt), Inv m c → ∃ c', dWhile dc db c = .ok .nx c' ∧ Done c' := by
  intro m
  induction m using Nat.strongRecOn with
  | _ m ih =>
    intro c h
    obtain ⟨k, c1, e1, h1, h2⟩ := t m c h
    rw [dWhile_eq]
    unfold M.bind
    rw [e1]
    dsimp only
    cases k with
    | false => exact ⟨c1, rfl, h1 rfl⟩
    | true =>
      obtain ⟨f, c2, e2, h3⟩ := h2 rfl
      rw [if_pos rfl, e2]
      rcases h3 with ⟨hf, m', hm, h3⟩ | ⟨hf, h3⟩
      · obtain ⟨c', e3, h4⟩ := ih m' hm c2 h3
        rcases hf with rfl | rfl <;> exact ⟨c', e3, h4⟩
      · subst hf
        exact ⟨c2, rfl, h3⟩
end My

set_option Elab.async false
set_option linter.all false
set_option maxRecDepth 100000
set_option maxHeartbeats 4000000
/-! F10: reckoning with images: ==, rows of numbers, texts of numbers. -/
namespace My
open PySem L2
variable [TabEnv]

omit [TabEnv] in
theorem gEq_of {neg k : Bool} {a b : O} {c : Stt} {p q : PyData} (h1 : pyO c a = some p) (h2 : pyO c b = some q) (hz : p.depth ≤ 64) (e : PyData.eqv p q = k) : gEq neg a b c = .ok (.v (.bl (if neg then !k else k))) c := by
  unfold gEq
  rw [h1, h2]
  dsimp only
  rw [if_pos hz, e]
omit [TabEnv] in
theorem gEq_datum {α : Type} [DecidableEq α] [PySem.W.Datum α] {neg : Bool} {a b : O} {c : Stt} (x y : α) (h1 : pyO c a = some (PySem.W.Datum.toD x)) (h2 : pyO c b = some (PySem.W.Datum.toD y)) (hz : PySem.W.Datum.depth α ≤ 64 := by decide) :
    gEq neg a b c = .ok (.v (.bl (if neg then !decide (x = y) else decide (x = y)))) c := gEq_of h1 h2 (Nat.le_trans (PySem.W.Datum.depth_le x) hz) (PySem.W.Datum.eqv x y)
omit [TabEnv] in
theorem gEq_int {neg : Bool} {i j : Int} {c : Stt} : gEq neg (.d (.v (.int i))) (.d (.v (.int j))) c = .ok (.v (.bl (if neg then !decide (i = j) else decide (i = j)))) c := gEq_datum i j rfl rfl
omit [TabEnv] in
theorem gEq_str {neg : Bool} {i j : Str} {c : Stt} : gEq neg (.d (.v (.str i))) (.d (.v (.str j))) c = .ok (.v (.bl (if neg then !decide (i = j) else decide (i = j)))) c := gEq_datum i j rfl rfl
omit [TabEnv] in
theorem gEq_bl {neg : Bool} {i j : Bool} {c : Stt} : gEq neg (.d (.v (.bl i))) (.d (.v (.bl j))) c = .ok (.v (.bl (if neg then !decide (i = j) else decide (i = j)))) c := gEq_datum i j rfl rfl
omit [TabEnv] in
theorem gEq_non {neg : Bool} {c : Stt} : gEq neg (.d (.v .non)) (.d (.v .non)) c = .ok (.v (.bl (!neg))) c := by
  rw [gEq_of (k := true) (p := .none) (q := .none) rfl rfl (by decide) (by simp only [PyData.eqv])]
  cases neg <;> rfl
/-! ### rows of whole numbers -/
omit [TabEnv] in
abbrev I (n : Int) : D := .v (.int n)
omit [TabEnv] in
theorem intsD_map (ns : List Int) : intsD (ns.map I) = some ns := by
  induction ns with
  | nil => rfl
  | cons n ns ih =>
    show (intsD (ns.map I)).map (n :: ·) = _
    rw [ih]
    rfl
omit [TabEnv] in
theorem intsD_eq : ∀ {ds : List D} {ns : List Int}, intsD ds = some ns → ds = ns.map I
  | [], ns, e => by unfold intsD at e; cases e; rfl
  | .v x :: ds, ns, e => by
    cases x with
    | int i =>
      unfold intsD at e
      cases q : intsD ds with
      | none => rw [q] at e; cases e
      | some ms => rw [q] at e; cases e; rw [intsD_eq q]; rfl
    | _ => unfold intsD at e; cases e
  | .tup _ :: _, _, e => by unfold intsD at e; cases e
  | .lst _ :: _, _, e => by unfold intsD at e; cases e
  | .scr _ :: _, _, e => by unfold intsD at e; cases e
  | .dct _ :: _, _, e => by unfold intsD at e; cases e
  | .ins _ _ :: _, _, e => by unfold intsD at e; cases e
  | .loc _ :: _, _, e => by unfold intsD at e; cases e
omit [TabEnv] in
theorem intsD_len {ds : List D} {ns : List Int} (h : intsD ds = some ns) : ds.length = ns.length := by
  rw [intsD_eq h, List.length_map]
omit [TabEnv] in
theorem atI_map {α β : Type} {f : α → β} {xs : List α} {i : Int} {d : α} (h0 : 0 ≤ i) (h1 : i < xs.length) : atI (xs.map f) i = some (f (xs.getD i.toNat d)) := by
  obtain ⟨j, rfl⟩ : ∃ j : Nat, i = j := ⟨i.toNat, by omega⟩
  have hl : j < xs.length := by omega
  rw [atI_nat (j := j) (v := f xs[j]) (by rw [List.getElem?_map, List.getElem?_eq_getElem hl]; rfl)]
  simp [List.getD, List.getElem?_eq_getElem hl]
omit [TabEnv] in
theorem pyDs_ints (ns : List Int) : pyDs (ns.map I) = some (ns.map PyData.int) := by
  induction ns with
  | nil => rfl
  | cons n ns ih =>
    show pyDs (I n :: ns.map I) = _
    unfold pyDs
    rw [ih]
    rfl
omit [TabEnv] in
theorem pyO_ints {c : Stt} (ns : List Int) : pyO c (.d (.lst (ns.map I))) = some (PySem.W.Datum.toD ns) := by
  show (pyDs (ns.map I)).map PyData.list = _
  rw [pyDs_ints]
  rfl
omit [TabEnv] in
theorem gEq_ints {neg : Bool} {ns ms : List Int} {c : Stt} : gEq neg (.d (.lst (ns.map I))) (.d (.lst (ms.map I))) c = .ok (.v (.bl (if neg then !decide (ns = ms) else decide (ns = ms)))) c := gEq_datum ns ms (pyO_ints ns) (pyO_ints ms)
/-! ### texts of numbers -/
omit [TabEnv] in
theorem gEq_pair {neg : Bool} {a b x y : Int} {c : Stt} : gEq neg (.d (.tup [.v (.int a), .v (.int b)])) (.d (.tup [.v (.int x), .v (.int y)])) c = .ok (.v (.bl (if neg then !decide (a = x ∧ b = y) else decide (a = x ∧ b = y)))) c := by
  rw [gEq_datum (a, b) (x, y) rfl rfl]
  simp only [Prod.mk.injEq]
omit [TabEnv] in
/-- a list behind an operand -/
def opL (r : List Slot) (i : Nat) : O := match r[i]? with
  | some (.own (.lst ds)) => .d (.lst ds)
  | some (.d (.lst ds)) => .d (.lst ds)
  | _ => .sl i
omit [TabEnv] in
theorem pyO_opL {r : List Slot} {S : List Cell} {i : Nat} : pyO ⟨r, S⟩ (opL r i) = pyO ⟨r, S⟩ (.sl i) := by
  unfold opL
  split
  · next h =>
    conv => rhs; unfold pyO
    dsimp only
    rw [h]
    unfold pyO pyD
    rfl
  · next h =>
    conv => rhs; unfold pyO
    dsimp only
    rw [h]
    unfold pyO pyD
    rfl
  · rfl
omit [TabEnv] in
theorem gEq_sl1 {neg : Bool} {i : Nat} {b : O} {r : List Slot} {S : List Cell} : gEq neg (.sl i) b ⟨r, S⟩ = gEq neg (opL r i) b ⟨r, S⟩ := by
  unfold gEq
  rw [pyO_opL]
omit [TabEnv] in
theorem gEq_sl2 {neg : Bool} {i : Nat} {a : O} {r : List Slot} {S : List Cell} : gEq neg a (.sl i) ⟨r, S⟩ = gEq neg a (opL r i) ⟨r, S⟩ := by
  unfold gEq
  rw [pyO_opL]
omit [TabEnv] in
def strZ (i : Int) : Str := Str.ofString (toString i)
omit [TabEnv] in
theorem strZ_len {i : Int} (h : i.natAbs.log2 < 1920) : (strZ i).length ≤ 1921 := PyProof.Rows.int_text_len_1921 h
omit [TabEnv] in
theorem str_append (a b : Str) : a ++ b = ⟨a.cps ++ b.cps⟩ := rfl
omit [TabEnv] in
theorem str_app_len (a b : Str) : (a ++ b).length = a.length + b.length := by
  show (a.cps ++ b.cps).size = _
  rw [Array.size_append]
  rfl
omit [TabEnv] in
theorem ofString_app (a b : String) : Str.ofString (a ++ b) = Str.ofString a ++ Str.ofString b := by
  rw [Str.ofString_eq_toList, Str.ofString_eq_toList, Str.ofString_eq_toList]
  show _ = (⟨_⟩ : Str)
  congr 1
  rw [String.toList_append, List.map_append]
  simp
omit [TabEnv] in
theorem strZ_neg {i : Int} (h : i < 0) : strZ i = ("-" : Str) ++ strZ (-i) := by
  unfold strZ
  rw [← ofString_app]
  congr 1
  cases i with
  | ofNat n => exact absurd h (Int.not_lt.mpr (Int.natCast_nonneg n))
  | negSucc n => rfl
omit [TabEnv] in
theorem gStr_int {i : Int} {c : Stt} (h : i.natAbs < 2 ^ 1000) : gStr1 (.d (.v (.int i))) c = .ok (.v (.str (strZ i))) c := by
  exact (if_pos (Nat.lt_of_lt_of_le (log2_lt (by decide) h) (by decide)))
omit [TabEnv] in
theorem strZ_len1 {i : Int} (h : i.natAbs < 2 ^ 1000) : (strZ i).length ≤ 1921 := strZ_len (Nat.lt_of_lt_of_le (log2_lt (by decide) h) (by decide))
/-! ### reckoning -/
omit [TabEnv] in
theorem fmod_bd {c m : Int} (h : 0 < m) : 0 ≤ c.fmod m ∧ c.fmod m < m := by
  rw [Int.fmod_eq_emod_of_nonneg _ (by omega)]
  exact ⟨Int.emod_nonneg _ (by omega), Int.emod_lt_of_pos _ h⟩
omit [TabEnv] in
theorem atI_fmod {α β : Type} {f : α → β} {xs : List α} {c m : Int} {d : α} (hm : (xs.length : Int) = m) (h : 0 < m) : atI (xs.map f) (c.fmod m) = some (f (xs.getD (c.fmod m).toNat d)) :=
  atI_map (fmod_bd h).1 (by rw [hm]; exact (fmod_bd h).2)
omit [TabEnv] in
theorem dFor_of {di : M (List D)} {dg : D → M Unit} {db : M Fl} {c c0 : Stt} {ds : List D} (h : di c = .ok ds c0) : dFor di dg db c = itF dg db ds c0 := by
  unfold dFor M.bind
  rw [h]
omit [TabEnv] in
theorem cutL_map {α β : Type} (f : α → β) (xs : List α) (lo hi : Option Int) : cutL (xs.map f) lo hi = (cutL xs lo hi).map f := by
  unfold cutL
  rw [List.length_map, List.map_take, List.map_drop]
omit [TabEnv] in
theorem enuD_map {α : Type} (f : α → D) (xs : List α) (d : α) : enuD (xs.map f) = (List.range xs.length).map fun k => .tup [.v (.int (k : Nat)), f (xs.getD k d)] := by
  unfold enuD
  rw [List.length_map]
  apply List.map_congr_left
  intro k hk
  have hl : k < xs.length := List.mem_range.mp hk
  simp [List.getD, List.getElem?_eq_getElem hl]
omit [TabEnv] in
theorem pyO_own {r : List Slot} {S : List Cell} {i : Nat} {ds : List D} (h : r[i]? = some (.own (.lst ds))) : pyO ⟨r, S⟩ (.sl i) = (pyDs ds).map .list := by
  unfold pyO
  dsimp only
  rw [h]
omit [TabEnv] in
theorem isi_NoneType_bool : isiT "NoneType" "bool" = some false := by decide +kernel
omit [TabEnv] in
theorem isi_NoneType_int : isiT "NoneType" "int" = some false := by decide +kernel
omit [TabEnv] in
theorem isi_NoneType_str : isiT "NoneType" "str" = some false := by decide +kernel
omit [TabEnv] in
theorem isi_NoneType_tuple : isiT "NoneType" "tuple" = some false := by decide +kernel
omit [TabEnv] in
theorem isi_NoneType_list : isiT "NoneType" "list" = some false := by decide +kernel
omit [TabEnv] in
theorem isi_NoneType_dict : isiT "NoneType" "dict" = some false := by decide +kernel
omit [TabEnv] in
theorem isi_bool_bool : isiT "bool" "bool" = some true := by decide +kernel
omit [TabEnv] in
theorem isi_bool_int : isiT "bool" "int" = some true := by decide +kernel
omit [TabEnv] in
theorem isi_bool_str : isiT "bool" "str" = some false := by decide +kernel
omit [TabEnv] in
theorem isi_bool_tuple : isiT "bool" "tuple" = some false := by decide +kernel
omit [TabEnv] in
theorem isi_bool_list : isiT "bool" "list" = some false := by decide +kernel
omit [TabEnv] in
theorem isi_bool_dict : isiT "bool" "dict" = some false := by decide +kernel
omit [TabEnv] in
theorem isi_int_bool : isiT "int" "bool" = some false := by decide +kernel
omit [TabEnv] in
theorem isi_int_int : isiT "int" "int" = some true := by decide +kernel
omit [TabEnv] in
theorem isi_int_str : isiT "int" "str" = some false := by decide +kernel
omit [TabEnv] in
theorem isi_int_tuple : isiT "int" "tuple" = some false := by decide +kernel
omit [TabEnv] in
theorem isi_int_list : isiT "int" "list" = some false := by decide +kernel
omit [TabEnv] in
theorem isi_int_dict : isiT "int" "dict" = some false := by decide +kernel
omit [TabEnv] in
theorem isi_str_bool : isiT "str" "bool" = some false := by decide +kernel
omit [TabEnv] in
theorem isi_str_int : isiT "str" "int" = some false := by decide +kernel
omit [TabEnv] in
theorem isi_str_str : isiT "str" "str" = some true := by decide +kernel
omit [TabEnv] in
theorem isi_str_tuple : isiT "str" "tuple" = some false := by decide +kernel
omit [TabEnv] in
theorem isi_str_list : isiT "str" "list" = some false := by decide +kernel
omit [TabEnv] in
theorem isi_str_dict : isiT "str" "dict" = some false := by decide +kernel
omit [TabEnv] in
theorem isi_tuple_bool : isiT "tuple" "bool" = some false := by decide +kernel
omit [TabEnv] in
theorem isi_tuple_int : isiT "tuple" "int" = some false := by decide +kernel
omit [TabEnv] in
theorem isi_tuple_str : isiT "tuple" "str" = some false := by decide +kernel
omit [TabEnv] in
theorem isi_tuple_tuple : isiT "tuple" "tuple" = some true := by decide +kernel
omit [TabEnv] in
theorem isi_tuple_list : isiT "tuple" "list" = some false := by decide +kernel
omit [TabEnv] in
theorem isi_tuple_dict : isiT "tuple" "dict" = some false := by decide +kernel
omit [TabEnv] in
theorem isi_list_bool : isiT "list" "bool" = some false := by decide +kernel
omit [TabEnv] in
theorem isi_list_int : isiT "list" "int" = some false := by decide +kernel
omit [TabEnv] in
theorem isi_list_str : isiT "list" "str" = some false := by decide +kernel
omit [TabEnv] in
theorem isi_list_tuple : isiT "list" "tuple" = some false := by decide +kernel
omit [TabEnv] in
theorem isi_list_list : isiT "list" "list" = some true := by decide +kernel
omit [TabEnv] in
theorem isi_list_dict : isiT "list" "dict" = some false := by decide +kernel
omit [TabEnv] in
theorem isi_dict_bool : isiT "dict" "bool" = some false := by decide +kernel
omit [TabEnv] in
theorem isi_dict_int : isiT "dict" "int" = some false := by decide +kernel
omit [TabEnv] in
theorem isi_dict_str : isiT "dict" "str" = some false := by decide +kernel
omit [TabEnv] in
theorem isi_dict_tuple : isiT "dict" "tuple" = some false := by decide +kernel
omit [TabEnv] in
theorem isi_dict_list : isiT "dict" "list" = some false := by decide +kernel
omit [TabEnv] in
theorem isi_dict_dict : isiT "dict" "dict" = some true := by decide +kernel
end My

set_option Elab.async false
set_option linter.all false
set_option maxRecDepth 100000
set_option maxHeartbeats 4000000
/-! F11: lists of the store: made, changed, walked. -/
namespace My
open PySem L2
variable [TabEnv]
section
variable {X : Cx} {W : WX} {a b e : Expr} {t ta tb : TE} {pos : Pos} {da db : M O}
omit [TabEnv] in
/-- a new list, put into the store -/
def dSt (dn : M (List D)) : M D := M.bind dn fun ds c => .ok (.loc c.S.length) ⟨c.r, c.S ++ [.lst ds]⟩
theorem dd_st {dn : M (List D)} (h : EN X W e t dn) : DD X W e t (dSt dn) := ⟨h.pe, fun Z F μ c σ H Q R p => h.ev Z F μ c σ H _ R (p.bind.imp fun ds c1 F1 μ1 H1 l1 R1 p1 q vs hq nb rs => by
  obtain ⟨R2, l2⟩ := R1.push (m := .lst ds) hq nb.f nb.z nb.no nb.nm (.lst (rs.mono ⟨Same.refl _, fun n x h => by
    have hn : n < μ1.length := (List.getElem?_eq_some_iff.mp h).1
    rw [List.getElem?_append_left hn]
    exact h⟩))
  refine p1 F1 _ H1 l2 R2 _ (.loc ?_)
  have : μ1.length = c1.S.length := R1.lm
  rw [← this]
  simp)⟩
omit [TabEnv] in
/-- xs[i] = e, of a list -/
def dPut (dv : M D) (dob : M O) (di : M D) : M Fl := M.bind dv fun x => M.bind dob fun o => M.bind di fun k c => match k with
  | .v (.int i) => match mutD c o with
    | some ds => match ixN ds.length i with
      | some j => .ok .nx (putL o (ds.set j x) c)
      | none => .no
    | none => .no
  | _ => .no
theorem sd_put {o i : Expr} {to ti : TE} {pos' : Pos} {dv di : M D} {dob : M O} (hv : DD X W e t dv) (ho : ED X W o to dob) (hi : DD X W i ti di) (hs : swapsWithSole [.Subscript o i pos'] e pos.line X.env = pure false := by rfl) (hw : swappedStores [.Subscript o i pos'] e X.env = pure none := by rfl)
    (h1 : (assignEach [.Subscript o i pos'] X.env).map (·.2) = [assign (.Subscript o i pos') X.env] := by rfl) (ha : ∀ v, assign (.Subscript o i pos') X.env v = (do
      let ov ← holding [v] (eval o X.env)
      let iv ← holding [v, ov] (eval i X.env)
      standAt pos'
      holding [v, ov, iv] (setItem ov iv v)
      release [v, ov, iv] []) := by intro _; rfl) : SD X W (.Assign [.Subscript o i pos'] e pos) (tAsg t (gSub to ti rSetL)) (dPut dv dob di) :=
  ⟨ps_asg hv.pe (pg_sub ho.pe hi.pe set_list ha) hs hw h1, fun Z F μ c σ H D R p => hv.ev Z F μ c σ H _ R (p.bind.imp fun y c1 F1 μ1 H1 l1 R1 p1 v r => ho.ev Z F1 μ1 c1 σ H1 _ R1 (p1.bind.imp fun oo c2 F2 μ2 H2 l2 R2 p2 ov ro => hi.ev Z F2 μ2 c2 σ H2 _ R2 (p2.bind.imp fun k c3 F3 μ3 H3 l3 R3 p3 iv ri => by
    split at p3
    · next z =>
      split at p3
      · next ds hs =>
        split at p3
        · next j hj =>
          cases ri
          obtain ⟨l, vs, rfl, h1, rs, kk⟩ := mut_at R3 (ro.mono l3) hs
          exact ⟨l, vs, z, j, rfl, rfl, h1, by rw [rs.length]; exact hj, p3 _ F3 μ3 _ (Le.refl _ _) (kk _ _ (Reps.set ((r.mono l2).mono l3) j rs))⟩
        · exact p3.elim
      · exact p3.elim
    · exact p3.elim)))⟩
end
/-! ### walking a list of the store that stays as it is meanwhile -/
open Classical in
omit [TabEnv] in
noncomputable def itG (n : Nat) (es : List D) (dg : D → M Unit) (db : M Fl) : List D → M Fl
  | [] => fun c => if c.S[n]? = some (.lst es) then .ok .nx c else .no
  | d :: r => fun c => if c.S[n]? = some (.lst es) then M.bind (M.ne (dg d)) (fun _ => M.bind db fun f => match f with
      | .nx => itG n es dg db r
      | .ct => itG n es dg db r
      | .bk => M.pure .nx
      | .rt x => M.pure (.rt x)) c else .no
omit [TabEnv] in
noncomputable def dForX (dg : D → M Unit) (db : M Fl) (x : D) : M Fl := match x with
  | .loc n => fun c => match c.S[n]? with
    | some (.lst es) => itG n es dg db es c
    | _ => .no
  | x => M.bind (seqX x) fun ds => itF dg db ds
omit [TabEnv] in
noncomputable def dForA (dd : M D) (dg : D → M Unit) (db : M Fl) : M Fl := M.bind dd (dForX dg db)
section
variable {X : Cx} {W : WX} {e : Expr} {t : TE} {pos : Pos}
theorem loc_at {K : PySem.W.Frag} {Z F : Hp} {μ : List Addr} {c : Stt} {σ : St} {H : Hp} {n : Nat} {a : Addr} {es : List D} (R : Rel K Z F μ c σ H) (h : μ[n]? = some a) (hs : c.S[n]? = some (.lst es)) : ∃ vs, H a = some (.lst vs) ∧ Reps K F μ vs es := by
  obtain ⟨_, _, ⟨u, e1, e2⟩, _⟩ := R.sto _ _ _ h hs
  cases e2 with
  | lst r => exact ⟨_, e1, r⟩
theorem sd_forA {tg iter : Expr} {body : List Stmt} {tl : TE} {vs : List Nat} {g : TG} {tb : TS} {dd : M D} {dg : D → M Unit} {db : M Fl} (hp : PassesOwn (model X.prog X.w) X.A X.env X.xe) (hc : X.calm = true) (hi : DD X W iter tl dd) (hg : GD X tg vs g dg) (hb : BD X W body tb db)
    (hs : ∀ x, foldedSetIterable iter X.env x = pure x := by intro _; rfl) : SD X W (.For tg iter body [] pos) (tFor (iAny X.K tl) g tb) (dForA dd dg db) := by
  refine ⟨ps_for hp hc (pi_any hi.pe) hg.pg hb.ps hs, fun Z F μ c σ H D R p => ?_⟩
  by_cases hl : ∃ n c1, dd c = .ok (.loc n) c1
  · obtain ⟨n, c0, e0⟩ := hl
    refine .inl (hi.ev Z F μ c σ H _ R ?_)
    unfold dForA at p
    have p1 := PostS.bind (σ := σ) p
    rw [e0] at p1 ⊢
    refine fun F1 μ1 H1 l1 R1 v rv => ?_
    cases rv with
    | @loc a _ hn =>
      have p2 := p1 F1 μ1 H1 l1 R1
      unfold dForX at p2
      dsimp only at p2
      cases hes : c0.S[n]? with
      | none => rw [hes] at p2; exact p2.elim
      | some m =>
      rw [hes] at p2
      cases m with
      | lst es =>
        dsimp only at p2
        obtain ⟨ws, hws, _⟩ := loc_at R1 hn hes
        refine ⟨_, rfl, ⟨ws, .of hws⟩, ?_⟩
        refine ⟨fun i m σ' H' => m = es.length - i ∧ i ≤ es.length ∧ ∃ F' μ' c', Le F1 μ1 F' μ' ∧ Rel X.K Z F' μ' c' σ' H' ∧ PostS X.K Z F' μ' W (itG n es dg db (es.drop i) c') D, ⟨es.length, by simp, Nat.zero_le _, F1, μ1, c0, Le.refl _ _, R1, p2⟩, ?_⟩
        rintro i m σ2 H2 ⟨rfl, hi2, F2, μ2, c2, l2, R2, p2⟩
        by_cases hg2 : c2.S[n]? = some (.lst es)
        · obtain ⟨us, hus, rs⟩ := loc_at R2 (l2.mu _ _ hn) hg2
          by_cases hlt : i < es.length
          · have hj : i < us.length := by rw [rs.length]; exact hlt
            refine .inr ⟨⟨us, us[i], .of hus, List.getElem?_eq_getElem hj⟩, fun σ' H' => ∃ F' μ' c', Le F1 μ1 F' μ' ∧ Rel X.K Z F' μ' c' σ' H' ∧ PostS X.K Z F' μ' W (itG n es dg db (es.drop (i + 1)) c') D, fun σ' H' h => ⟨_, by omega, rfl, hlt, h⟩, fun x H' y => ?_⟩
            obtain ⟨rfl, y⟩ := y
            obtain ⟨d, e1, r3⟩ := rs.getV (y us (.of hus))
            have ed : es.drop i = d :: es.drop (i + 1) := by
              rw [List.drop_eq_getElem_cons hlt]
              rw [List.getElem?_eq_getElem hlt] at e1
              rw [Option.some.inj e1]
            rw [ed] at p2
            unfold itG at p2
            rw [if_pos hg2] at p2
            unfold M.bind M.ne at p2
            cases q2 : dg d c2 with
            | no => rw [q2] at p2; exact p2.elim
            | ex _ _ => rw [q2] at p2; exact p2.elim
            | ok u c3 =>
              rw [q2] at p2
              refine hg.ev Z F2 μ2 c2 σ2 H' _ x d R2 r3 ⟨c3, q2, fun σ3 R4 _ => hb.ev Z F2 μ2 c3 σ3 H' _ R4 ?_⟩
              dsimp only at p2
              cases q3 : db c3 with
              | no => rw [q3] at p2; exact p2
              | ex _ _ => rw [q3] at p2; exact p2
              | ok f c4 =>
                rw [q3] at p2
                cases f with
                | nx => exact fun σ' F' μ' H4 l R' => ⟨F', μ', c4, l2.trans l, R', p2.le l⟩
                | ct => exact fun σ' F' μ' H4 l R' => ⟨F', μ', c4, l2.trans l, R', p2.le l⟩
                | bk => exact p2
                | rt d => exact p2
          · have e1 : es.drop i = [] := List.drop_eq_nil_of_le (by omega)
            rw [e1] at p2
            unfold itG at p2
            rw [if_pos hg2] at p2
            exact .inl ⟨⟨us, .of hus, by rw [rs.length]; omega⟩, p2 σ2 F2 μ2 H2 (Le.refl _ _) R2⟩
        · have : itG n es dg db (es.drop i) c2 = .no := by
            cases es.drop i <;> unfold itG <;> rw [if_neg hg2]
          rw [this] at p2
          exact p2.elim
      | _ => exact p2.elim
  · refine (sd_for (pos := pos) hp hc (id_any hi) hg hb hs).ev Z F μ c σ H D R ?_
    have e : dFor (M.bind dd seqX) dg db c = dForA dd dg db c := by
      unfold dFor dForA M.bind
      cases q : dd c with
      | ok x c1 =>
        cases x with
        | loc n => exact absurd ⟨n, c1, q⟩ hl
        | _ => rfl
      | _ => rfl
    rw [e]
    exact p
/-! comprehensions -/
open Classical in
omit [TabEnv] in
noncomputable def itLG (n : Nat) (es : List D) (dg : D → M Unit) (dt : M Bool) (de : M D) (vs : List Nat) (r0 : List Slot) : List D → List D → M (List D)
  | [], acc => fun c => if c.S[n]? = some (.lst es) then .ok acc ⟨wipeD c.r vs, c.S⟩ else .no
  | d :: r, acc => fun c => if c.S[n]? = some (.lst es) then M.bind (M.ne (dg d)) (fun _ => M.bind (M.ne dt) fun k => if k = true then M.bind (M.ne de) fun y => fun c => if acc.length < 1000000 then itLG n es dg dt de vs r0 r (acc ++ [y]) c else .no
    else itLG n es dg dt de vs r0 r acc) ⟨wipeD c.r vs, c.S⟩ else .no
omit [TabEnv] in
noncomputable def dLcX (dg : D → M Unit) (dt : M Bool) (de : M D) (vs : List Nat) (x : D) : M (List D) := match x with
  | .loc n => fun c => match c.S[n]? with
    | some (.lst es) => M.bind (itLG n es dg dt de vs c.r es []) (fun ys c' => .ok ys ⟨backD c.r c'.r vs, c'.S⟩) c
    | _ => .no
  | x => dLc (seqX x) dg dt de vs
omit [TabEnv] in
noncomputable def dLcA (dd : M D) (dg : D → M Unit) (dt : M Bool) (de : M D) (vs : List Nat) : M (List D) := M.bind dd (dLcX dg dt de vs)
theorem en_lcA {W' : WX} {elt tg iter : Expr} {ifs : List Expr} {scope : Scope} {own : List (Str × Nat)} {tl : TE} {vs : List Nat} {g : TG} {tt : TT} {te : TE} {dd : M D} {dg : D → M Unit} {dt : M Bool} {de : M D} (hc : X.calm = true) (hN : X.N.Nodup) (hi : DD X W iter tl dd) (ok : BlkOk X.N X.env.scope scope own)
    (hg : ∀ (s : Shared) (H : Hp) (C : Addr) (cl : List (Str × Addr)) (fp : List Addr), GD (X.blk s H scope (compEnvC scope cl C X.env) fp) tg vs g dg) (ht : ∀ (s : Shared) (H : Hp) (C : Addr) (cl : List (Str × Addr)) (fp : List Addr), TsD (X.blk s H scope (compEnvC scope cl C X.env) fp) W' ifs tt dt)
    (he : ∀ (s : Shared) (H : Hp) (C : Addr) (cl : List (Str × Addr)) (fp : List Addr), DD (X.blk s H scope (compEnvC scope cl C X.env) fp) W' elt te de) (hv : ∀ j ∈ vs, j ∈ own.map (·.2) := by decide) (hs : ∀ x, foldedSetIterable iter X.env x = pure x := by intro _; rfl) :
    EN X W (.ListComp elt [⟨tg, iter, ifs, 0⟩] scope pos) (tLc (iAny X.K tl) g tt te (own.map (·.2))) (dLcA dd dg dt de (own.map (·.2))) := by
  have eg : EvG X.K vs g dg := (hg {} (fun _ => none) 0 [] []).ev
  have et : EvT X.K W' tt dt := (ht {} (fun _ => none) 0 [] []).ev
  have ee : EvD X.K W' te de := (he {} (fun _ => none) 0 [] []).ev
  refine ⟨pe_lc hc hN (pi_any hi.pe) ok (fun s H C cl fp => (hg s H C cl fp).pg) (fun s H C cl fp => (ht s H C cl fp).pt) (fun s H C cl fp => (he s H C cl fp).pe) hs, fun Z F μ c σ H Q R p => ?_⟩
  by_cases hl : ∃ n c1, dd c = .ok (.loc n) c1
  · obtain ⟨n, c1, e0⟩ := hl
    generalize own.map (·.2) = us at hv p ⊢
    refine .inl (hi.ev Z F μ c σ H _ R ?_)
    unfold dLcA at p
    have pp := Post.bind (σ := σ) p
    rw [e0] at pp ⊢
    refine fun F1 μ1 H1 l1 R1 v rv => ?_
    cases rv with
    | loc hn =>
      have p1 := pp F1 μ1 H1 l1 R1
      unfold dLcX at p1
      dsimp only at p1
      cases hes : c1.S[n]? with
      | none => rw [hes] at p1; exact p1.elim
      | some m =>
      rw [hes] at p1
      cases m with
      | lst es =>
        dsimp only at p1
        obtain ⟨ls, hls, _⟩ := loc_at R1 hn hes
        refine ⟨_, rfl, ⟨ls, .of hls⟩, ?_⟩
        intro A hA
        have nA := R1.nob hA
        have zA : Z A = none := nA.z
        refine ⟨fun i m H' => m = es.length - i ∧ i ≤ es.length ∧ ∃ F' μ' c' ws acc, Le F1 μ1 F' μ' ∧ Rel X.K (upd Z A (.lst ws)) F' μ' ⟨wipeD c'.r us, c'.S⟩ (wipe σ us) H' ∧ Reps X.K F' μ' ws acc ∧ acc.length ≤ 1000000 ∧
            Post X.K Z F' μ' σ W (M.bind (itLG n es dg dt de us c1.r (es.drop i) acc) (fun ys c' => .ok ys ⟨backD c1.r c'.r us, c'.S⟩) c') (fun ds c' F' μ' H' => ∀ p vs, H' p = some (.lst vs) → Nob Z F' μ' c' σ p → Reps X.K F' μ' vs ds → Q (.ref p) H'),
          ⟨es.length, by simp, Nat.zero_le _, F1, μ1, c1, [], [], Le.refl _ _, rel_wipe (rel_aside (R1.up (same_new hA)) upd_same nA) us, .nil, Nat.zero_le _, p1⟩, ?_⟩
        rintro i m H2 ⟨rfl, hi2, F2, μ2, c2, ws, acc, l2, R2, ra, hz, p2⟩
        by_cases hg2 : c2.S[n]? = some (.lst es)
        · obtain ⟨xs, hxs, rs⟩ := loc_at R2 (l2.mu _ _ hn) hg2
          by_cases hlt : i < es.length
          · have hj : i < xs.length := by rw [rs.length]; exact hlt
            refine .inr ⟨⟨xs, xs[i], .of hxs, List.getElem?_eq_getElem hj⟩, fun H' => ∃ F' μ' c' ws acc, Le F1 μ1 F' μ' ∧ Rel X.K (upd Z A (.lst ws)) F' μ' ⟨wipeD c'.r us, c'.S⟩ (wipe σ us) H' ∧ Reps X.K F' μ' ws acc ∧ acc.length ≤ 1000000 ∧
              Post X.K Z F' μ' σ W (M.bind (itLG n es dg dt de us c1.r (es.drop (i + 1)) acc) (fun ys c' => .ok ys ⟨backD c1.r c'.r us, c'.S⟩) c') (fun ds c' F' μ' H' => ∀ p vs, H' p = some (.lst vs) → Nob Z F' μ' c' σ p → Reps X.K F' μ' vs ds → Q (.ref p) H'),
              fun H' h => ⟨_, by omega, rfl, hlt, h⟩, fun x H' y => ?_⟩
            obtain ⟨rfl, y⟩ := y
            obtain ⟨d, e1, r3⟩ := rs.getV (y xs (.of hxs))
            have ed : es.drop i = d :: es.drop (i + 1) := by
              rw [List.drop_eq_getElem_cons hlt]
              rw [List.getElem?_eq_getElem hlt] at e1
              rw [Option.some.inj e1]
            rw [ed] at p2
            unfold itLG at p2
            unfold M.bind M.ne at p2
            dsimp only at p2
            rw [if_pos hg2] at p2
            cases q2 : dg d ⟨wipeD c2.r us, c2.S⟩ with
            | no => rw [q2] at p2; exact p2.elim
            | ex _ _ => rw [q2] at p2; exact p2.elim
            | ok u c3 =>
              rw [q2] at p2
              dsimp only at p2
              refine eg _ F2 μ2 _ (wipe σ us) H' _ x d R2 r3 ⟨c3, q2, fun σ3 R4 w3 => ?_⟩
              have ew : wipe σ3 us = wipe σ us := by
                rw [w3 us hv]
                have ww : ∀ vs : List Nat, (∀ j ∈ vs, j ∈ us) → wipe (wipe σ vs) us = wipe σ us := by
                  intro vs
                  induction vs with
                  | nil => intro _; rfl
                  | cons v vs ih =>
                    intro hh
                    show wipe ((wipe σ vs).set v none) us = wipe σ us
                    rw [wipe_set (hh v List.mem_cons_self)]
                    exact ih fun j hj => hh j (List.mem_cons_of_mem _ hj)
                exact ww us fun _ h => h
              refine ⟨ew, et _ F2 μ2 c3 σ3 H' _ R4 ?_⟩
              cases q3 : dt c3 with
              | no => rw [q3] at p2; exact p2.elim
              | ex _ _ => rw [q3] at p2; exact p2.elim
              | ok k c4 =>
                rw [q3] at p2
                dsimp only at p2
                refine fun F4 μ4 H4 l4 R5 => ?_
                replace p2 := p2.le l4
                cases k with
                | false =>
                  refine ⟨F4, μ4, c4, ws, acc, l2.trans l4, ?_, ra.mono l4, hz, p2⟩
                  have := rel_wipe R5 us
                  rw [ew] at this
                  exact this
                | true =>
                  rw [if_pos rfl] at p2
                  show te σ3 H4 _
                  refine ee _ F4 μ4 c4 σ3 H4 _ R5 ?_
                  cases q4 : de c4 with
                  | no => rw [q4] at p2; exact p2.elim
                  | ex _ _ => rw [q4] at p2; exact p2.elim
                  | ok z c5 =>
                    rw [q4] at p2
                    dsimp only at p2
                    refine fun F5 μ5 H5 l5 R6 v rv => ?_
                    replace p2 := p2.le l5
                    have ra5 := (ra.mono l4).mono l5
                    obtain ⟨_, _, hA5⟩ := aside_nob R6 zA
                    by_cases hz5 : acc.length < 1000000
                    · rw [if_pos hz5] at p2
                      have hw : ws.length < sizeLine := Nat.lt_of_lt_of_le (by rw [ra5.length]; exact hz5) (small6 (Nat.le_refl _))
                      refine ⟨ws, hA5, hw, F5, μ5, c5, ws ++ [v], acc ++ [z], (l2.trans l4).trans l5, ?_, ra5.snoc rv, by rw [List.length_append, List.length_singleton]; exact hz5, p2⟩
                      have := rel_wipe (aside_put R6 zA (o' := .lst (ws ++ [v]))) us
                      rw [ew] at this
                      exact this
                    · rw [if_neg hz5] at p2
                      exact p2.elim
          · have e1 : es.drop i = [] := List.drop_eq_nil_of_le (by omega)
            rw [e1] at p2
            unfold itLG at p2
            unfold M.bind at p2
            dsimp only at p2
            rw [if_pos hg2] at p2
            obtain ⟨R3, n3, hA3⟩ := aside_nob R2 zA
            have R4 := rel_back R1 l2 us R3
            exact .inl ⟨⟨xs, .of hxs, by rw [rs.length]; omega⟩, p2 F2 μ2 H2 (Le.refl _ _) R4 A ws hA3 ⟨n3.f, n3.z, fun j m' q e => by
              obtain ⟨a, e2, c2', _⟩ := R4.own j m' q
              rw [e] at e2; cases e2
              rcases back_get q with ⟨_, h2⟩ | ⟨h1, h2⟩
              · rcases h2 with h2 | ⟨x, h2, _⟩ <;> cases h2
              · exact n3.no j m' h2 (by rw [wipe_out h1]; exact e), n3.nm⟩ ra⟩
        · have : itLG n es dg dt de us c1.r (es.drop i) acc c2 = .no := by
            cases es.drop i <;> unfold itLG <;> rw [if_neg hg2]
          unfold M.bind at p2
          rw [this] at p2
          exact p2.elim
      | _ => exact p1.elim
  · refine (en_lc (pos := pos) hc hN (id_any hi) ok hg ht he hv hs).ev Z F μ c σ H Q R ?_
    have e : dLc (M.bind dd seqX) dg dt de (own.map (·.2)) c = dLcA dd dg dt de (own.map (·.2)) c := by
      unfold dLcA dLc M.bind
      cases q : dd c with
      | ok x c1 =>
        cases x with
        | loc n => exact absurd ⟨n, c1, q⟩ hl
        | _ => rfl
      | _ => rfl
    rw [e]
    exact p
theorem sd_setLcA {W' : WX} {i : Nat} {y : Str} {py spos : Pos} {elt tg iter : Expr} {ifs : List Expr} {scope : Scope} {own : List (Str × Nat)} {tl : TE} {vs : List Nat} {g : TG} {tt : TT} {te : TE} {dd : M D} {dg : D → M Unit} {dt : M Bool} {de : M D} (hc : X.calm = true) (hN : X.N.Nodup) (hy : X.N[i]? = some y) (hyl : X.env.scope.names.lookup y = some .local)
    (hsw : swapsWith (.ListComp elt [⟨tg, iter, ifs, 0⟩] scope pos) (some (.Name y py)) spos.line X.env = pure true) (hi : DD X W iter tl dd) (ok : BlkOk X.N X.env.scope scope own)
    (hg : ∀ (s : Shared) (H : Hp) (C : Addr) (cl : List (Str × Addr)) (fp : List Addr), GD (X.blk s H scope (compEnvC scope cl C X.env) fp) tg vs g dg) (ht : ∀ (s : Shared) (H : Hp) (C : Addr) (cl : List (Str × Addr)) (fp : List Addr), TsD (X.blk s H scope (compEnvC scope cl C X.env) fp) W' ifs tt dt)
    (he : ∀ (s : Shared) (H : Hp) (C : Addr) (cl : List (Str × Addr)) (fp : List Addr), DD (X.blk s H scope (compEnvC scope cl C X.env) fp) W' elt te de) (hv : ∀ j ∈ vs, j ∈ own.map (·.2) := by decide) (hs : ∀ x, foldedSetIterable iter X.env x = pure x := by intro _; rfl) :
    SD X W (.Assign [.Name y py] (.ListComp elt [⟨tg, iter, ifs, 0⟩] scope pos) spos) (tAsg (tLc (iAny X.K tl) g tt te (own.map (·.2))) (gName i)) (dSetN i (dLcA dd dg dt de (own.map (·.2)))) :=
  ⟨ps_setLc hc hN hy hyl hsw (pi_any hi.pe) ok (fun s H C cl fp => (hg s H C cl fp).pg) (fun s H C cl fp => (ht s H C cl fp).pt) (fun s H C cl fp => (he s H C cl fp).pe) hs, ev_setN (en_lcA (pos := pos) hc hN hi ok hg ht he hv hs).ev⟩
end
end My

set_option Elab.async false
set_option linter.all false
set_option maxRecDepth 100000
set_option maxHeartbeats 4000000
/-! F12: objects of own classes: made, their fields, their methods. -/
namespace My
open PySem L2
variable [TabEnv]
omit [TabEnv] in
abbrev E00 : XK := fun _ _ _ => False
omit [TabEnv] in
theorem passF {X : Cx} : Passes (L2N.CX X.prog X.w) X E00 := fun _ _ _ _ _ _ _ c => by
  obtain ⟨_, _, _, _, _, _, _, _, _, _, _, _, z⟩ := c
  exact z.elim
/-- a method of a class computes g -/
def Okm (P : Program) (w : World) (K : PySem.W.Frag) (mg : Str → Option Value) (base : Heap) (k : Nat) (C : Addr) (m : Str) (ps : List Str) (g : G) : Prop :=
  ∃ f fd, Meth K C m f ∧ FnOk P w K mg base (L2N.CX P w) k f fd ps (spG K g) ∧ ∀ us : List Value, us.length = ps.length → bindArgs fd ⟨us, []⟩ = pure (ps.zip us)
/-- a class that is made by its name -/
def Okc (P : Program) (w : World) (K : PySem.W.Frag) (mg : Str → Option Value) (base : Heap) (k : Nat) (x : Str) (C : Addr) (ps : List Str) (g : G) : Prop :=
  ∃ f fd, Mk K C f ∧ mg x = some (.ref C) ∧ FnOk P w K mg base (L2N.CX P w) k f fd ps (spG K g) ∧ ∀ us : List Value, us.length = ps.length → bindArgs fd ⟨us, []⟩ = pure (ps.zip us)
omit [TabEnv] in
/-- where a method stands -/
def HasM (K : PySem.W.Frag) (C : Addr) (m qual : Str) (st : Stmt) (ps : List Str) : Prop := ∃ f fd, Fun K m qual st f fd ∧ Meth K C m f ∧ ∀ us : List Value, us.length = ps.length → bindArgs fd ⟨us, []⟩ = pure (ps.zip us)
omit [TabEnv] in
def HasC (K : PySem.W.Frag) (mg : Str → Option Value) (x : Str) (C : Addr) (qual : Str) (st : Stmt) (ps : List Str) : Prop := ∃ f fd, Fun K "__init__" qual st f fd ∧ Mk K C f ∧ mg x = some (.ref C) ∧ ∀ us : List Value, us.length = ps.length → bindArgs fd ⟨us, []⟩ = pure (ps.zip us)
theorem ok_hasM {P : Program} {w : World} {K : PySem.W.Frag} {mg : Str → Option Value} {base : Heap} {m qual : Str} {C : Addr} {st : Stmt} {N ps : List Str} {j k : Nat} {b : M Fl} (h : HasM K C m qual st ps) (S : FnScope N ps (defScope st)) (hk : ps.length = k) (hN : k ≤ N.length)
    (body : ∀ (f : Addr) (cdv : Value) (A : Around) (outer : List Env) (s : Shared) (H : Hp) (E : XK), Room j (A.deeper (PyProof.Rows.envOfC qual (defScope st) s.heap.objs.size f cdv)) →
      ∃ t, BD (cxOf (L2N.CX P w) P w K mg base N qual (defScope st) f cdv A outer s H E) (fun cls d _ H => E cls d H) (defBody st) t b) : Okm P w K mg base (j + 1) C m ps (runD N.length k b) := by
  obtain ⟨f, fd, F, hm, hb⟩ := h
  exact ⟨f, fd, hm, fn_ok F S hk hN (body f), hb⟩
theorem ok_hasC {P : Program} {w : World} {K : PySem.W.Frag} {mg : Str → Option Value} {base : Heap} {x qual : Str} {C : Addr} {st : Stmt} {N ps : List Str} {j k : Nat} {b : M Fl} (h : HasC K mg x C qual st ps) (S : FnScope N ps (defScope st)) (hk : ps.length = k) (hN : k ≤ N.length)
    (body : ∀ (f : Addr) (cdv : Value) (A : Around) (outer : List Env) (s : Shared) (H : Hp) (E : XK), Room j (A.deeper (PyProof.Rows.envOfC qual (defScope st) s.heap.objs.size f cdv)) →
      ∃ t, BD (cxOf (L2N.CX P w) P w K mg base N qual (defScope st) f cdv A outer s H E) (fun cls d _ H => E cls d H) (defBody st) t b) : Okc P w K mg base (j + 1) x C ps (runD N.length k b) := by
  obtain ⟨f, fd, F, hm, hg, hb⟩ := h
  exact ⟨f, fd, hm, hg, fn_ok F S hk hN (body f), hb⟩
theorem Okm.by {P : Program} {w : World} {K : PySem.W.Frag} {mg : Str → Option Value} {base : Heap} {k : Nat} {C : Addr} {m : Str} {ps : List Str} {g g' : G} (h : Okm P w K mg base k C m ps g) (e : ∀ ds S, g' ds S ≠ .no → g ds S = g' ds S) : Okm P w K mg base k C m ps g' := by
  obtain ⟨f, fd, hm, F, hb⟩ := h
  exact ⟨f, fd, hm, FnOk.by F e, hb⟩
theorem Okc.by {P : Program} {w : World} {K : PySem.W.Frag} {mg : Str → Option Value} {base : Heap} {k : Nat} {x : Str} {C : Addr} {ps : List Str} {g g' : G} (h : Okc P w K mg base k x C ps g) (e : ∀ ds S, g' ds S ≠ .no → g ds S = g' ds S) : Okc P w K mg base k x C ps g' := by
  obtain ⟨f, fd, hm, hg, F, hb⟩ := h
  exact ⟨f, fd, hm, hg, FnOk.by F e, hb⟩
omit [TabEnv] in
/-- what an object of the store has -/
def insD (c : Stt) (C : Addr) : D → Option (List (Str × D))
  | .loc n => match c.S[n]? with
    | some (.ins C' fs) => if C' = C then some fs else none
    | _ => none
  | _ => none
omit [TabEnv] in
def insO (c : Stt) (C : Addr) : O → Option (List (Str × D))
  | .d x => insD c C x
  | _ => none
omit [TabEnv] in
theorem lookup_map {α : Type} {fs : List (Str × α)} : ∀ {gs : List (Str × V)} {m : Str}, gs.map (·.1) = fs.map (·.1) → fs.lookup m = none → gs.lookup m = none := by
  induction fs with
  | nil =>
    intro gs m h _
    cases gs with
    | nil => rfl
    | cons a r => cases h
  | cons f fs ih =>
    intro gs m h e
    cases gs with
    | nil => cases h
    | cons a r =>
      obtain ⟨f1, f2⟩ := f
      obtain ⟨a1, a2⟩ := a
      rw [List.map_cons, List.map_cons] at h
      obtain ⟨h1, h2⟩ := List.cons.inj h
      replace h1 : a1 = f1 := h1
      subst h1
      rw [List.lookup_cons] at e ⊢
      cases q : m == a1 with
      | true => rw [q] at e; cases e
      | false => rw [q] at e; exact ih h2 e
omit [TabEnv] in
theorem lookup_rep {K : PySem.W.Frag} {F : Hp} {μ : List Addr} {m : Str} {x : D} : ∀ {fs : List (Str × D)} {gs : List (Str × V)}, gs.map (·.1) = fs.map (·.1) → Reps K F μ (gs.map (·.2)) (fs.map (·.2)) → fs.lookup m = some x → ∃ v, gs.lookup m = some v ∧ Rep K F μ v x
  | [], _, _, _, e => by cases e
  | (f1, f2) :: fs, [], h, _, _ => by cases h
  | (f1, f2) :: fs, (a1, a2) :: gs, h, r, e => by
    rw [List.map_cons, List.map_cons] at h r
    obtain ⟨h1, h2⟩ := List.cons.inj h
    replace h1 : a1 = f1 := h1
    subst h1
    rw [List.lookup_cons] at e ⊢
    cases r with
    | cons r1 r2 =>
      cases q : m == a1 with
      | true => rw [q] at e; cases e; exact ⟨_, rfl, r1⟩
      | false => rw [q] at e; exact lookup_rep h2 r2 e
omit [TabEnv] in
/-- a field's new value -/
def putFD (f : Str) (x : D) : List (Str × D) → List (Str × D)
  | [] => [(f, x)]
  | (g, y) :: r => if g = f then (g, x) :: r else (g, y) :: putFD f x r
omit [TabEnv] in
theorem putF_rep {K : PySem.W.Frag} {F : Hp} {μ : List Addr} {f : Str} {x : D} {v : V} (rv : Rep K F μ v x) : ∀ {fs : List (Str × D)} {gs : List (Str × V)}, gs.map (·.1) = fs.map (·.1) → Reps K F μ (gs.map (·.2)) (fs.map (·.2)) → (putF f v gs).map (·.1) = (putFD f x fs).map (·.1) ∧ Reps K F μ ((putF f v gs).map (·.2)) ((putFD f x fs).map (·.2))
  | [], [], _, _ => ⟨rfl, .cons rv .nil⟩
  | [], _ :: _, h, _ => by cases h
  | _ :: _, [], h, _ => by cases h
  | (f1, f2) :: fs, (a1, a2) :: gs, h, r => by
    rw [List.map_cons, List.map_cons] at h r
    obtain ⟨h1, h2⟩ := List.cons.inj h
    replace h1 : a1 = f1 := h1
    subst h1
    cases r with
    | cons r1 r2 =>
      unfold putF putFD
      split
      · exact ⟨by rw [List.map_cons, List.map_cons]; exact congrArg _ h2, .cons rv r2⟩
      · obtain ⟨e1, e2⟩ := putF_rep rv h2 r2
        exact ⟨by rw [List.map_cons, List.map_cons]; exact congrArg _ e1, .cons r1 e2⟩
section
variable {K : PySem.W.Frag} {Z F : Hp} {μ : List Addr} {c : Stt} {σ : St} {H : Hp}
theorem ins_at {C : Addr} {v : V} {x : D} {fs : List (Str × D)} (h : Rel K Z F μ c σ H) (r : Rep K F μ v x) (e : insD c C x = some fs) :
    ∃ a dx gs n, x = .loc n ∧ v = .ref a ∧ μ[n]? = some a ∧ c.S[n]? = some (.ins C fs) ∧ H a = some (.ins C dx gs) ∧ gs.map (·.1) = fs.map (·.1) ∧ Reps K F μ (gs.map (·.2)) (fs.map (·.2)) := by
  cases r with
  | loc hn =>
    unfold insD at e
    dsimp only at e
    split at e
    · next C' fs' hs =>
      split at e
      · next hC =>
        cases e
        subst hC
        obtain ⟨_, _, ⟨u, e1, e2⟩, _⟩ := h.sto _ _ _ hn hs
        cases e2 with
        | ins k r => exact ⟨_, _, _, _, rfl, rfl, hn, hs, e1, k, r⟩
      · cases e
    · cases e
  | _ => cases e
theorem ins_atO {C : Addr} {v : V} {x : O} {fs : List (Str × D)} (h : Rel K Z F μ c σ H) (r : RepO K F μ σ v x) (e : insO c C x = some fs) :
    ∃ a dx gs n, x = .d (.loc n) ∧ v = .ref a ∧ μ[n]? = some a ∧ c.S[n]? = some (.ins C fs) ∧ H a = some (.ins C dx gs) ∧ gs.map (·.1) = fs.map (·.1) ∧ Reps K F μ (gs.map (·.2)) (fs.map (·.2)) := by
  cases r with
  | d r =>
    obtain ⟨a, dx, gs, n, rfl, h2⟩ := ins_at h r e
    exact ⟨a, dx, gs, n, rfl, h2⟩
  | sl q => cases e
end
section
variable {X : Cx} {W : WX} {o e : Expr} {t to te : TE} {pos apos : Pos} {dob : M O} {dv : M D} {es : List Expr} {tr : TA} {dr : M (List D)}
omit [TabEnv] in
/-- o.f -/
def dFld (C : Addr) (f : Str) (dob : M O) : M D := M.bind dob fun x c => match insO c C x with
  | some fs => match fs.lookup f with
    | some y => .ok y c
    | none => .no
  | none => .no
theorem dd_fld {K : PySem.W.Frag} {C : Addr} {f : Str} (cl : Cls X.K C) (na : NoAttr X.K C f) (ho : ED X W o to dob) (hb : attributeBase o f X.env (eval o X.env) = eval o X.env := by rfl) (hK : X.K = K := by rfl) : DD X W (.Attribute o f pos) (tFld K to f) (dFld C f dob) := by
  subst hK
  exact ⟨pe_fld ho.pe hb, fun Z F μ c σ H Q R p => ho.ev Z F μ c σ H _ R (p.bind.imp fun x c1 F1 μ1 H1 l1 R1 p1 v r => by
    split at p1
    · next fs hfs =>
      split at p1
      · next y hy =>
        obtain ⟨a, dx, gs, n, rfl, rfl, hn, hs, ha, k, rs⟩ := ins_atO R1 r hfs
        obtain ⟨u, hu, ru⟩ := lookup_rep k rs hy
        exact ⟨a, C, dx, gs, u, rfl, ha, cl, na, hu, p1 F1 μ1 H1 (Le.refl _ _) R1 _ ru⟩
      · exact p1.elim
    · exact p1.elim)⟩
omit [TabEnv] in
/-- o.f = e -/
def dSetF (C : Addr) (f : Str) (dv : M D) (dob : M O) : M Fl := M.bind dv fun y => M.bind dob fun x c => match x with
  | .d (.loc n) => match insD c C (.loc n) with
    | some fs => if fs.length < 1000 then .ok .nx ⟨c.r, c.S.set n (.ins C (putFD f y fs))⟩ else .no
    | none => .no
  | _ => .no
theorem sd_fld {K : PySem.W.Frag} {C : Addr} {f : Str} {pos' : Pos} (cl : Cls X.K C) (na : NoAttr X.K C f) (ho : ED X W o to dob) (hv : DD X W e te dv) (hs : swapsWith e (some (.Attribute o f pos')) pos.line X.env = pure false := by rfl) (hK : X.K = K := by rfl) : SD X W (.Assign [.Attribute o f pos'] e pos) (sFld K to te f) (dSetF C f dv dob) := by
  subst hK
  exact ⟨ps_fld ho.pe hv.pe hs, fun Z F μ c σ H D R p => hv.ev Z F μ c σ H _ R (p.bind.imp fun y c1 F1 μ1 H1 l1 R1 p1 v r => ho.ev Z F1 μ1 c1 σ H1 _ R1 (p1.bind.imp fun x c2 F2 μ2 H2 l2 R2 p2 u ru => by
    split at p2
    · next n =>
      split at p2
      · next fs hfs =>
        split at p2
        · next hz =>
          obtain ⟨a, dx, gs, n', e1, rfl, hn, hs, ha, k, rs⟩ := ins_atO R2 ru (show insO c2 C (.d (.loc n)) = some fs from hfs)
          cases e1
          obtain ⟨k', rs'⟩ := putF_rep (f := f) (r.mono l2) k rs
          have hl : gs.length < 1000 := by
            have : (gs.map (·.1)).length = (fs.map (·.1)).length := by rw [k]
            rw [List.length_map, List.length_map] at this
            omega
          exact ⟨a, C, dx, gs, rfl, ha, cl, na, hl, p2 _ F2 μ2 _ (Le.refl _ _) (R2.put hs trivial hn (.ins k' rs'))⟩
        · exact p2.elim
      · exact p2.elim
    · exact p2.elim))⟩
omit [TabEnv] in
/-- o.m(..) -/
def dMeth (C : Addr) (m : Str) (g : G) (dob : M O) (dr : M (List D)) : M D := M.bind dob fun x c => match x with
  | .d y => match insD c C y with
    | some fs => if fs.lookup m = none then M.bind dr (fun ds c => match g (y :: ds) c.S with
        | .ok d S => .ok d ⟨c.r, S⟩
        | _ => .no) c else .no
    | none => .no
  | _ => .no
theorem sp_meth {K : PySem.W.Frag} {Z F : Hp} {μ : List Addr} {c : Stt} {σ : St} {H : Hp} {g : G} {ds : List D} {vs : List V} {Q : VK} (RR : Rel K Z F μ c σ H) (rs : Reps K F μ vs ds)
    (p : Post K Z F μ σ W (match g ds c.S with
        | .ok d S => R.ok d ⟨c.r, S⟩
        | _ => .no) (fun x _ F' μ' H' => ∀ v, Rep K F' μ' v x → Q v H')) : spG K g vs H Q E00 := by
  refine ⟨lend Z c σ H, F, μ, c.S, ds, lend_of RR, rs, ?_⟩
  cases e : g ds c.S with
  | ok d S => rw [e] at p; exact fun v F' μ' H' le R' rv => p F' μ' H' le (lend_back RR le R') v rv
  | ex x S => rw [e] at p; exact p.elim
  | no => rw [e] at p; exact p.elim
theorem ev_meth {K : PySem.W.Frag} {C : Addr} {m : Str} {g : G} (ho : EvE K W to dob) (ha : EvA K W tr dr) : EvD K W (tMeth C m (spG K g) [] E00 to tr) (dMeth C m g dob dr) := fun Z F μ c σ H Q R p => ho Z F μ c σ H _ R (p.bind.imp fun x c1 F1 μ1 H1 l1 R1 p1 v r => by
    split at p1
    · next y =>
      split at p1
      · next fs hfs =>
        split at p1
        · next hl =>
          cases r with
          | d r =>
            obtain ⟨a, dx, gs, n, rfl, rfl, hn, hs, hh, k, rs⟩ := ins_at R1 r hfs
            refine ⟨a, dx, gs, rfl, hh, lookup_map k hl, ha Z F1 μ1 c1 σ H1 _ R1 (p1.bind.imp fun ds c2 F2 μ2 H2 l2 R2 p2 vs rs2 => ?_)⟩
            rw [List.append_nil]
            exact sp_meth R2 (.cons (r.mono l2) rs2) p2
        · exact p1.elim
      · exact p1.elim
    · exact p1.elim)
theorem dd_meth {K : PySem.W.Frag} {C : Addr} {m : Str} {k : Nat} {ps : List Str} {g : G} {pl : Sem Bool} (h : Okm X.prog X.w X.K X.mg X.base k C m ps g) (hr : Room k X.A) (cl : Cls X.K C) (ho : ED X W o to dob) (ha : AD X W (e :: es) tr dr)
    (hst : starEach (e :: es) X.env = (false, eval e X.env) :: starEach es X.env := by rfl) (hpl : (backTo pos (starEach es X.env)).any (·.1) = false := by rfl)
    (ht : eval (.Call (.Attribute o m apos) (e :: es) [] pos) X.env = (do
      let ov ← eval o X.env
      standAt apos.atName
      let (f, first) ← holding [ov] (getMethod ov m pl)
      callWith pos f first (backTo pos (starEach (e :: es) X.env)) (backToKw pos (keywordEach [] X.env))) := by rfl) (hK : X.K = K := by rfl) :
    DD X W (.Call (.Attribute o m apos) (e :: es) [] pos) (tMeth C m (spG K g) [] E00 to tr) (dMeth C m g dob dr) := by
  subst hK
  obtain ⟨f, fd, hm, F, hb⟩ := h
  exact ⟨pe_meth (pl := pl) ho.pe cl hm F hr (.all hb) .nil passF ha.pa hst hpl ht, ev_meth ho.ev ha.ev⟩
theorem dd_meth0 {K : PySem.W.Frag} {C : Addr} {m : Str} {k : Nat} {ps : List Str} {g : G} {pl : Sem Bool} (h : Okm X.prog X.w X.K X.mg X.base k C m ps g) (hr : Room k X.A) (cl : Cls X.K C) (ho : ED X W o to dob)
    (ht : eval (.Call (.Attribute o m apos) [] [] pos) X.env = (do
      let ov ← eval o X.env
      standAt apos.atName
      let (f, first) ← holding [ov] (getMethod ov m pl)
      callWith pos f first (backTo pos (starEach [] X.env)) (backToKw pos (keywordEach [] X.env))) := by rfl) (hK : X.K = K := by rfl) :
    DD X W (.Call (.Attribute o m apos) [] [] pos) (tMeth C m (spG K g) [] E00 to tNil) (dMeth C m g dob dNil) := by
  subst hK
  obtain ⟨f, fd, hm, F, hb⟩ := h
  exact ⟨pe_meth0 (pl := pl) ho.pe cl hm F hr (.all hb) .nil passF ht, ev_meth ho.ev (ad_nil (X := X)).ev⟩
omit [TabEnv] in
/-- C(..) -/
def dMake (C : Addr) (g : G) (dr : M (List D)) : M D := M.bind dr fun ds c => match g (.loc c.S.length :: ds) (c.S ++ [.ins C []]) with
  | .ok (.v .non) S => .ok (.loc c.S.length) ⟨c.r, S⟩
  | _ => .no
theorem ev_make {K : PySem.W.Frag} {C : Addr} {g : G} (ha : EvA K W tr dr) : EvD K W (tMake C (spG K g) [] E00 tr) (dMake C g dr) := fun Z F μ c σ H Q R p => ha Z F μ c σ H _ R (p.bind.imp fun ds c1 F1 μ1 H1 l1 R1 p1 vs rs x dx hx hdx hne => by
    have hx1 : upd H1 dx (.own x) x = none := by rw [upd_ne (fun e => hne e.symm)]; exact hx
    have R2 := (R1.up (same_new hdx)).up (same_new (o := .ins C dx []) hx1)
    have nb := R1.nob hx
    obtain ⟨R3, l3⟩ := R2.push (m := .ins C []) upd_same nb.f nb.z nb.no nb.nm (.ins rfl .nil)
    have hnl : (μ1 ++ [x])[c1.S.length]? = some x := by
      have : μ1.length = c1.S.length := R1.lm
      rw [← this]
      simp
    rw [List.append_nil]
    refine ⟨lend Z _ σ _, F1, _, c1.S ++ [.ins C []], .loc c1.S.length :: ds, lend_of R3, .cons (.loc hnl) (rs.mono l3), ?_⟩
    cases eg : g (.loc c1.S.length :: ds) (c1.S ++ [.ins C []]) with
    | ok d S =>
      rw [eg] at p1
      cases d with
      | v z =>
        cases z with
        | non =>
          refine fun v F' μ' H' le R' rv => ?_
          cases rv
          have Rb := lend_back R3 le R'
          exact ⟨rfl, p1 F' μ' H' (l3.trans le) Rb _ (.loc (le.mu _ _ hnl))⟩
        | _ => exact p1.elim
      | _ => exact p1.elim
    | ex x S => rw [eg] at p1; exact p1.elim
    | no => rw [eg] at p1; exact p1.elim)
theorem dd_make {K : PySem.W.Frag} {C : Addr} {x : Str} {k : Nat} {ps : List Str} {g : G} {p : Pos} (h : Okc X.prog X.w X.K X.mg X.base k x C ps g) (hr : Room (k + 1) X.A) (hg : Gl X x) (ha : AD X W (e :: es) tr dr)
    (hdb : (x == ("__debug__" : Str)) = false := by decide) (he : starEach (e :: es) X.env = (false, eval e X.env) :: starEach es X.env := by rfl) (hpl : (backTo pos (starEach es X.env)).any (·.1) = false := by rfl) (hK : X.K = K := by rfl) :
    DD X W (.Call (.Name x p) (e :: es) [] pos) (tMake C (spG K g) [] E00 tr) (dMake C g dr) := by
  subst hK
  obtain ⟨f, fd, M, hm, F, hb⟩ := h
  exact ⟨pe_make M F hr hg hm (.all hb) .nil passF ha.pa hdb he hpl, ev_make ha.ev⟩
theorem dd_make0 {K : PySem.W.Frag} {C : Addr} {x : Str} {k : Nat} {ps : List Str} {g : G} {p : Pos} (h : Okc X.prog X.w X.K X.mg X.base k x C ps g) (hr : Room (k + 1) X.A) (hg : Gl X x)
    (hdb : (x == ("__debug__" : Str)) = false := by decide) (hK : X.K = K := by rfl) :
    DD X W (.Call (.Name x p) [] [] pos) (tMake C (spG K g) [] E00 tNil) (dMake C g dNil) := by
  subst hK
  obtain ⟨f, fd, M, hm, F, hb⟩ := h
  exact ⟨pe_make0 M F hr hg hm (.all hb) .nil passF hdb, ev_make (ad_nil (X := X)).ev⟩
end
end My

set_option Elab.async false
set_option linter.all false
set_option maxRecDepth 100000
set_option maxHeartbeats 4000000
/-! F13: the order of data; lists by remove, pop; min of tuples. -/
namespace My
open PySem L2
variable [TabEnv]
section
variable {X : Cx} {W : WX} {a b e o : Expr} {t ta tb to te : TE} {pos apos : Pos} {da db dob : M O}
/-! ### < of data of one form -/
omit [TabEnv] in
def someP : PyData → Bool
  | .none => false
  | _ => true
omit [TabEnv] in
def gLtD : O → O → M D := fun a b c => match pyO c a, pyO c b with
  | some p, some q => if PySem.W.alike p q = true ∧ someP p = true ∧ p.depth ≤ 64 then .ok (.v (.bl (PySem.W.dataLt p q))) c else .no
  | _, _ => .no
omit [TabEnv] in
def rLtD (K : PySem.W.Frag) : R2 := fun x y H Q => ∃ d e, Dp K H x d ∧ Dp K H y e ∧ PySem.W.alike d e = true ∧ d ≠ .none ∧ d.depth ≤ 64 ∧ Q (.bl (PySem.W.dataLt d e)) H
omit [TabEnv] in
theorem op_ltD (hu : X.A.units + 64 < cLine) : OpR X (compareOp .Lt) (rLtD X.K) := by
  intro pins s σ H x y v u Q I rx ry h
  obtain ⟨d, e, hd, he, ha, hn, hz, q⟩ := h
  obtain ⟨as, r1⟩ := Dp.reads I d x v hd rx
  obtain ⟨bs, r2⟩ := Dp.reads I e y u he ry
  have hm : X.A.units + min d.depth e.depth < cLine := by
    have : min d.depth e.depth ≤ d.depth := Nat.min_le_left _ _
    omega
  exact PySem.W.lt_data r1 r2 ha hn hm ⟨.bl _, H, I, rfl, q⟩
theorem r2_ltD {K : PySem.W.Frag} : R2S K W (rLtD K) gLtD := fun Z F μ c σ H Q x y a b R rx ry p => by
  unfold gLtD at p
  split at p
  · next d e h1 h2 =>
    split at p
    · next hs => exact ⟨d, e, dpO_of R rx h1, dpO_of R ry h2, hs.1, (fun z => by subst z; cases hs.2.1), hs.2.2, p F μ H (Le.refl _ _) R _ (.v _)⟩
    · exact p.elim
  · exact p.elim
omit [TabEnv] in
def rLtA (K : PySem.W.Frag) : R2 := fun x y H Q => rI0 (fun i j => .bl (decide (i < j))) x y H Q ∨ rLtD K x y H Q
omit [TabEnv] in
def gLtA : O → O → M D := gOr (gI iLt) gLtD
theorem cLtA {K : PySem.W.Frag} (hu : X.A.units + 64 < cLine) (hK : X.K = K := by rfl) : CmpR X W .Lt (rLtA K) gLtA := by
  subst hK
  exact ⟨op_lt.or (op_ltD hu), r2_lt.or r2_ltD⟩
/-! ### o.pop() -/
omit [TabEnv] in
def dPop (dob : M O) : M D := M.bind dob fun o c => match mutD c o with
  | some ds => match ds[ds.length - 1]? with
    | some x => .ok x (putL o ds.dropLast c)
    | none => .no
  | none => .no
theorem dd_pop {K : PySem.W.Frag} (ho : ED X W o to dob) (hbase : attributeBase o "pop" X.env (eval o X.env) = eval o X.env := by rfl) (hline : (apos.endLine == pos.line) = true := by rfl) (hK : X.K = K := by rfl) :
    DD X W (.Call (.Attribute o "pop" apos) [] [] pos) (tBM0 K "list" rPop to) (dPop dob) := by
  subst hK
  exact ⟨pe_bm0 PySem.F.plainAttrs_list PySem.F.slot_list_pop PySem.F.type_list_pop mt_pop ho.pe hbase hline, fun Z F μ c σ H Q R p => ho.ev Z F μ c σ H _ R (p.bind.imp fun x c1 F1 μ1 H1 l1 R1 p1 v r => by
    split at p1
    · next ds hs =>
      split at p1
      · next y hy =>
        obtain ⟨l, vs, rfl, h1, rs, k⟩ := mut_at R1 r hs
        rw [← rs.length] at hy
        obtain ⟨u, hu, ru⟩ : ∃ u, vs[vs.length - 1]? = some u ∧ Rep X.K F1 μ1 u y := rs.get hy
        exact ⟨.inl ⟨rfl, _, .of h1⟩, l, vs, u, rfl, rfl, h1, hu, p1 F1 μ1 _ (Le.refl _ _) (k _ _ rs.dropLast) _ ru⟩
      · exact p1.elim
    · exact p1.elim)⟩
/-! ### o.remove(e) -/
omit [TabEnv] in
/-- the first place of an equal item -/
def firstEq (q : PyData) : List PyData → Option Nat
  | [] => none
  | p :: ps => if PyData.eqv p q = true then some 0 else (firstEq q ps).map (· + 1)
omit [TabEnv] in
theorem firstEq_at {q : PyData} : ∀ {ps : List PyData} {j : Nat}, firstEq q ps = some j → (∃ p, ps[j]? = some p ∧ PyData.eqv p q = true) ∧ ∀ m, m < j → ∀ p, ps[m]? = some p → PyData.eqv p q = false
  | [], _, e => by cases e
  | p :: ps, j, e => by
    unfold firstEq at e
    split at e
    · next h => cases e; exact ⟨⟨p, rfl, h⟩, fun m hm => absurd hm (Nat.not_lt_zero _)⟩
    · next h =>
      cases h2 : firstEq q ps with
      | none => rw [h2] at e; cases e
      | some i =>
        rw [h2] at e
        cases e
        obtain ⟨h3, h4⟩ := firstEq_at h2
        refine ⟨h3, fun m hm p' hp' => ?_⟩
        cases m with
        | zero => cases hp'; simpa using h
        | succ m => exact h4 m (Nat.lt_of_succ_lt_succ hm) p' hp'
omit [TabEnv] in
def rRemP (K : PySem.W.Frag) : V → List V → Hp → VK → Prop := fun x ys H Q => ∃ l vs y ps q j, x = .ref l ∧ ys = [y] ∧ H l = some (.lst vs) ∧ DpAll K H vs ps ∧ Dp K H y q ∧ PyData.plainAll ps = true ∧ q.plain = true ∧ q.depth ≤ 64 ∧ firstEq q ps = some j ∧ Q .non (upd H l (.lst (vs.eraseIdx j)))
omit [TabEnv] in
theorem plainAll_get : ∀ {ps : List PyData} {i : Nat} {p : PyData}, PyData.plainAll ps = true → ps[i]? = some p → p.plain = true
  | [], _, _, _, e => by simp at e
  | q :: ps, 0, p, h, e => by
    have h' : (q.plain && PyData.plainAll ps) = true := h
    rw [Bool.and_eq_true] at h'
    cases e
    exact h'.1
  | q :: ps, i + 1, p, h, e => by
    have h' : (q.plain && PyData.plainAll ps) = true := h
    rw [Bool.and_eq_true] at h'
    exact plainAll_get h'.2 (by simpa using e)
omit [TabEnv] in
theorem readsAll_get {h : Heap} : ∀ {us : List Value} {ps : List PyData} {as : List Addr} {i : Nat} {u : Value}, ReadsAll h us ps as → us[i]? = some u → ∃ p bs, ps[i]? = some p ∧ Reads h u p bs
  | _, _, _, _, _, .nil, e => by simp at e
  | _, _, _, 0, u, .cons r _, e => by cases e; exact ⟨_, _, rfl, r⟩
  | _, _, _, i + 1, u, .cons _ rs, e => by
    obtain ⟨p, bs, h1, h2⟩ := readsAll_get rs (by simpa using e)
    exact ⟨p, bs, by simpa using h1, h2⟩
omit [TabEnv] in
theorem mt_rem (hu : X.A.units + 66 < cLine) : MtM X "list.remove" (rRemP X.K) := by
  intro pins s σ H x ys v us Q I rx rxs h
  obtain ⟨l, vs, y, ps, q, j, rfl, rfl, hH, hps, hq, pp, pq, hz, hj, k⟩ := h
  cases rx
  obtain ⟨u, rfl, ru⟩ := rxs.one
  obtain ⟨z, its, n, r, hl, e⟩ := I.lstM hH
  obtain ⟨as, ra⟩ := Dp.readsAll I ps vs its hps r
  obtain ⟨bs, rb⟩ := Dp.reads I q y u hq ru
  obtain ⟨⟨p, hp, he⟩, hno⟩ := firstEq_at hj
  have hln : its.length = ps.length := by
    have := PySem.W.readsAll_len (vs := its.toArray) (by simpa using ra)
    simpa using this
  have hjn : j < its.length := by
    rw [hln]
    exact (List.getElem?_eq_some_iff.mp hp).1
  have hjl : j < its.toArray.size := by rw [List.size_toArray]; exact hjn
  classical
  let ee : Value → Bool := fun w => decide (∃ p as, p.plain = true ∧ Reads s.heap w p as ∧ PyData.eqv p q = true)
  have hee : ∀ {i : Nat} {w : Value} {p : PyData}, its[i]? = some w → ps[i]? = some p → ee w = PyData.eqv p q := fun {i w p} h1 h2 => by
    obtain ⟨p', bs', h3, h4⟩ := readsAll_get ra h1
    rw [h2] at h3; cases h3
    have pl := plainAll_get pp h2
    show decide _ = _
    cases hv : PyData.eqv p q with
    | true => exact decide_eq_true ⟨p, bs', pl, h4, hv⟩
    | false =>
      refine decide_eq_false ?_
      rintro ⟨p2, as2, pl2, r2, e2⟩
      have := PySem.SeqAt.plain_unique _ _ _ _ _ pl2 r2 h4
      rw [this, hv] at e2
      cases e2
  refine call_meets PySem.F.slot_list_remove ⟨_, e, rfl⟩ PySem.F.entry_list_remove (PySem.F.args_list_remove_2 _ _)
    (PySem.SeqAt.list_removeAt l its.toArray n none #[] u ee j hjl ?_ ?_ (by rw [List.size_toArray, ← hl]; exact z)) ⟨e, ?_, ?_⟩
  · have : its[j]? = some its.toArray[j] := by simp
    rw [hee this hp]
    exact he
  · intro m hm hmj
    have hm' : m < its.length := by simpa using hm
    have h1 : its[m]? = some its.toArray[m] := by simp [hm']
    obtain ⟨p', bs', h3, h4⟩ := readsAll_get ra h1
    rw [hee h1 h3]
    exact hno m hmj p' h3
  · intro w hw
    obtain ⟨i, hi⟩ : ∃ i, its[i]? = some w := List.getElem?_of_mem (by simpa using hw)
    obtain ⟨p', bs', h3, h4⟩ := readsAll_get ra hi
    rw [hee hi h3]
    refine PySem.SeqAt.eqAt_plain _ _ _ _ _ _ _ _ h4 rb (plainAll_get pp h3) pq ?_
    show X.A.units + 1 + min p'.depth q.depth < cLine
    have : min p'.depth q.depth ≤ q.depth := Nat.min_le_right _ _
    omega
  · have rr := r.eraseIdx j
    refine ⟨.non, _, I.lset (its' := its.eraseIdx j) (t' := s.toks) hH e ?_ rr ?_, rfl, k⟩
    · show its.toArray.eraseIdxIfInBounds j = (its.eraseIdx j).toArray
      rw [List.eraseIdxIfInBounds_toArray]
    · have : (vs.eraseIdx j).length ≤ vs.length := by
        rw [List.length_eraseIdx]
        split <;> omega
      omega
omit [TabEnv] in
/-- o.remove(e) -/
def dRem (dob : M O) (de : M D) : M D := M.bind dob fun o c => match mutD c o with
  | some _ => M.bind de (fun x c => match mutD c o with
      | some ds => match pyDs ds, pyO c (.d x) with
        | some ps, some q => match firstEq q ps with
          | some j => if q.depth ≤ 64 then .ok (.v .non) (putL o (ds.eraseIdx j) c) else .no
          | none => .no
        | _, _ => .no
      | none => .no) c
  | none => .no
omit [TabEnv] in
theorem Reps.eraseIdx {K : PySem.W.Frag} {F : Hp} {μ : List Addr} : ∀ {vs : List V} {ds : List D} (j : Nat), Reps K F μ vs ds → Reps K F μ (vs.eraseIdx j) (ds.eraseIdx j)
  | _, _, _, .nil => by
    rw [List.eraseIdx_nil, List.eraseIdx_nil]
    exact .nil
  | _, _, 0, .cons _ rs => rs
  | _, _, j + 1, .cons r rs => .cons r (Reps.eraseIdx j rs)
theorem dd_rem {K : PySem.W.Frag} {de : M D} (hu : X.A.units + 66 < cLine) (ho : ED X W o to dob) (he : DD X W e te de) (hbase : attributeBase o "remove" X.env (eval o X.env) = eval o X.env := by rfl)
    (hfew : ((backTo pos (starEach [e] X.env)).all (fun x => !x.1) && (backToKw pos (keywordEach [] X.env)).all (fun x => x.1.isSome)
      && decide (([e] : List Expr).length + ([] : List Keyword).length + (if ([] : List Keyword).isEmpty then 0 else 1) < 30)) = true := by rfl)
    (hline : (apos.endLine == pos.line) = true := by rfl) (hs : starEach [e] X.env = (false, eval e X.env) :: starEach [] X.env := by rfl) (hplain : (backTo pos (starEach [] X.env)).any (·.1) = false := by rfl)
    (hs2 : starEach [e] X.env = (false, eval e X.env) :: starEach [] X.env := by rfl) (hK : X.K = K := by rfl) :
    DD X W (.Call (.Attribute o "remove" apos) [e] [] pos) (tBM K "list" (rRemP K) to (tCons te tNil)) (dRem dob de) := by
  subst hK
  exact ⟨pe_bm PySem.F.plainAttrs_list PySem.F.slot_list_remove PySem.F.type_list_remove (mt_rem hu) ho.pe (pa_cons he.pe pa_nil hs2) hbase hfew hline hs hplain, fun Z F μ c σ H Q R p => ho.ev Z F μ c σ H _ R (p.bind.imp fun oo c1 F1 μ1 H1 l1 R1 p1 v1 r1 => by
    split at p1
    · next ds0 hs0 =>
      obtain ⟨a0, vs0, rfl, h0, _, _⟩ := mut_at R1 r1 hs0
      refine ⟨.inl ⟨rfl, _, .of h0⟩, he.ev Z F1 μ1 c1 σ H1 _ R1 (p1.bind.imp fun x c2 F2 μ2 H2 l2 R2 p2 v2 r2 => ?_)⟩
      split at p2
      · next ds hs =>
        split at p2
        · next ps q h1 h2 =>
          split at p2
          · next j hj =>
            split at p2
            · next hz =>
              obtain ⟨a2, vs2, e2, h3, rs, k⟩ := mut_at R2 (r1.mono l2) hs
              cases e2
              exact ⟨_, vs2, v2, ps, q, j, rfl, rfl, h3, dps_of R2.ex rs h1, dpO_of R2 (.d r2) h2, pyDs_plain h1, pyO_plain h2, hz, hj, p2 F2 μ2 _ (Le.refl _ _) (k _ _ (Reps.eraseIdx j rs)) _ (.v _)⟩
            · exact p2.elim
          · exact p2.elim
        · exact p2.elim
      · exact p2.elim
    · exact p1.elim)⟩
end
/-! ### min of tuples of whole numbers -/
omit [TabEnv] in
def tupI (t : List Int) : D := .tup (t.map I)
omit [TabEnv] in
def tisD : List D → Option (List (List Int))
  | [] => some []
  | .tup ds :: r => match intsD ds, tisD r with
    | some t, some ts => some (t :: ts)
    | _, _ => none
  | _ => none
omit [TabEnv] in
theorem tisD_eq : ∀ {ds : List D} {ts : List (List Int)}, tisD ds = some ts → ds = ts.map tupI
  | [], ts, e => by unfold tisD at e; cases e; rfl
  | .tup ds :: r, ts, e => by
    unfold tisD at e
    cases h1 : intsD ds with
    | none => rw [h1] at e; cases e
    | some t =>
      rw [h1] at e
      cases h2 : tisD r with
      | none => rw [h2] at e; cases e
      | some us =>
        rw [h2] at e
        cases e
        rw [tisD_eq h2, intsD_eq h1]
        rfl
  | .v _ :: _, _, e => by unfold tisD at e; cases e
  | .lst _ :: _, _, e => by unfold tisD at e; cases e
  | .scr _ :: _, _, e => by unfold tisD at e; cases e
  | .dct _ :: _, _, e => by unfold tisD at e; cases e
  | .ins _ _ :: _, _, e => by unfold tisD at e; cases e
  | .loc _ :: _, _, e => by unfold tisD at e; cases e
omit [TabEnv] in
theorem tisD_map : ∀ ts : List (List Int), tisD (ts.map tupI) = some ts
  | [] => rfl
  | t :: ts => by
    show tisD (.tup (t.map I) :: ts.map tupI) = _
    unfold tisD
    rw [intsD_map, tisD_map ts]
omit [TabEnv] in
theorem pyDs_tups : ∀ ts : List (List Int), pyDs (ts.map tupI) = some (ts.map fun t => PySem.W.Datum.toD (PySem.W.Tup.mk t))
  | [] => rfl
  | t :: ts => by
    show pyDs (.tup (t.map I) :: ts.map tupI) = _
    unfold pyDs
    have e : pyD (.tup (t.map I)) = some (PySem.W.Datum.toD (PySem.W.Tup.mk t)) := by
      unfold pyD
      rw [pyDs_ints]
      rfl
    rw [e, pyDs_tups ts]
    rfl
omit [TabEnv] in
/-- the order of rows -/
abbrev rowLt (a b : List Int) : Bool := PySem.W.listLt a b
omit [TabEnv] in
def minT (t : List Int) (ts : List (List Int)) : List Int := ts.foldl (fun a y => if rowLt y a = true then y else a) t
omit [TabEnv] in
theorem minT_of (t : List Int) : ∀ ts : List (List Int), (PySem.W.minOf (PySem.W.Tup.mk t) (ts.map PySem.W.Tup.mk)).items = minT t ts := fun ts => by
  unfold PySem.W.minOf minT
  induction ts generalizing t with
  | nil => rfl
  | cons u us ih =>
    rw [List.map_cons, List.foldl_cons, List.foldl_cons]
    have e : (if PySem.W.DatumOrd.lt (PySem.W.Tup.mk u) (PySem.W.Tup.mk t) = true then PySem.W.Tup.mk u else PySem.W.Tup.mk t) = PySem.W.Tup.mk (if rowLt u t = true then u else t) := by
      show (if rowLt u t = true then _ else _) = _
      split <;> rfl
    rw [e]
    exact ih _
section
variable {X : Cx} {W : WX}
omit [TabEnv] in
def rMinT (K : PySem.W.Frag) : List V → Hp → VK → Prop := fun xs H Q => ∃ p vs t ts, xs = [.ref p] ∧ SqL K H p vs ∧ DpAll K H vs ((t :: ts).map fun t => PySem.W.Datum.toD (PySem.W.Tup.mk t)) ∧ ∀ (i : Nat) v, vs[i]? = some v → (t :: ts)[i]? = some (minT t ts) → Q v H
omit [TabEnv] in
theorem vals_get : ∀ {vs : List V} {us : List Value} {i : Nat} {u : Value}, Vals vs us → us[i]? = some u → ∃ v, vs[i]? = some v ∧ RelV v u
  | _, _, _, _, .nil, e => by simp at e
  | _, _, 0, u, .cons r _, e => by cases e; exact ⟨_, rfl, r⟩
  | _, _, i + 1, u, .cons _ rs, e => by
    obtain ⟨v, h1, h2⟩ := vals_get rs (by simpa using e)
    exact ⟨v, by simpa using h1, h2⟩
omit [TabEnv] in
theorem call_minT (hc : X.calm = true) (hu : X.A.units + 66 < cLine) : CallR X (.builtin "min") (rMinT X.K) := by
  intro pins s σ H xs us Q I r h
  obtain ⟨p, vs, t, ts, rfl, hs, hd, q⟩ := h
  obtain ⟨its, rv, hl, _⟩ := I.list hs
  rw [Vals.ref1 r]
  obtain ⟨as, ra⟩ := Dp.readsAll I _ vs its hd rv
  rw [List.map_cons] at ra
  have e1 : (ts.map fun t => PySem.W.Datum.toD (PySem.W.Tup.mk t)) = (ts.map PySem.W.Tup.mk).map PySem.W.Datum.toD := by
    rw [List.map_map]
    rfl
  rw [e1] at ra
  have hdp : PyData.depthAll (PySem.W.Datum.toD (PySem.W.Tup.mk t) :: (ts.map PySem.W.Tup.mk).map PySem.W.Datum.toD) ≤ 10 := Nat.le_trans (PySem.W.depthAll_map (PySem.W.Tup.mk t :: ts.map PySem.W.Tup.mk)) (by decide)
  refine PySem.W.min_list_data (I.ok.hd hc) hl.isList ra (PySem.W.alikeAll_datum (PySem.W.Tup.mk t :: ts.map PySem.W.Tup.mk)) (by omega) fun i u h' tk bs hi hr hk => ?_
  have hi' : its[i]? = some u := by simpa using hi
  obtain ⟨v, hv, rvu⟩ := vals_get rv hi'
  refine ⟨v, H, I.kept hk, rvu, q i v hv ?_⟩
  obtain ⟨p', bs', h3, h4⟩ := readsAll_get ra hi'
  rw [PySem.W.minD_map] at hr
  have h5 := PySem.W.reads_keeps hk h4
  have h6 : p' = PySem.W.Datum.toD (PySem.W.minOf (PySem.W.Tup.mk t) (ts.map PySem.W.Tup.mk)) := (PySem.SeqAt.plain_unique _ _ _ _ _ (PySem.W.Datum.plain _) hr h5).symm
  rw [h6, ← List.map_cons, List.getElem?_map] at h3
  obtain ⟨w, h7, h8⟩ := Option.map_eq_some_iff.mp h3
  have h9 : w = PySem.W.minOf (PySem.W.Tup.mk t) (ts.map PySem.W.Tup.mk) := by
    have := PySem.W.Datum.eqv w (PySem.W.minOf (PySem.W.Tup.mk t) (ts.map PySem.W.Tup.mk))
    rw [h8, PySem.W.Datum.eqv] at this
    simpa using this.symm
  rw [h9, ← List.map_cons, List.getElem?_map] at h7
  obtain ⟨z, h10, h11⟩ := Option.map_eq_some_iff.mp h7
  rw [h10]
  have : z = minT t ts := by
    rw [← minT_of, ← h11]
  rw [this]
omit [TabEnv] in
def gMinT : O → M D := fun a c => match (rdlD c a).bind tisD with
  | some (t :: ts) => .ok (tupI (minT t ts)) c
  | _ => .no
theorem bMinT {K : PySem.W.Frag} (hc : X.calm = true) (hu : X.A.units + 66 < cLine) (hK : X.K = K := by rfl) : B1 X W (.builtin "min") (rMinT K) gMinT := by
  subst hK
  refine ⟨call_minT hc hu, fun Z F μ c σ H Q x a R rx p => ?_⟩
  unfold gMinT at p
  split at p
  · next t ts hn =>
    cases q : rdlD c a with
    | none => rw [q] at hn; cases hn
    | some ds =>
      rw [q] at hn
      obtain ⟨l, vs, rfl, h1, q1⟩ := rdl_at R rx q
      have e := tisD_eq hn
      subst e
      refine ⟨l, vs, t, ts, rfl, h1, dps_of R.ex q1 (pyDs_tups (t :: ts)), fun i v hv hi => ?_⟩
      obtain ⟨d, h2, h3⟩ := q1.getV hv
      rw [List.getElem?_map, hi] at h2
      cases h2
      exact p F μ H (Le.refl _ _) R _ h3
  · exact p.elim
end
end My

set_option Elab.async false
set_option linter.all false
set_option maxRecDepth 100000
set_option maxHeartbeats 4000000
/-! F14: what the top has written: classes; the end of a law, whatever the addresses. -/
namespace My
open PySem L2
variable [TabEnv]
omit [TabEnv] in
theorem has_ofM {K : PySem.W.Frag} {C f : Addr} {m qual : Str} {st : Stmt} {ps : List Str} {od an : Option Addr} {sl : Array (Option Value)} {oc kV dc pm cd ct : Value}
    (b : ∀ (kV doc pm : Value) (an : Option Addr) (cdv ct : Value) (us : List Value), us.length = ps.length → bindArgs (PySem.W.fnOf m qual (defArgs st) (defBody st) (defScope st) .none kV doc pm an cdv ct) ⟨us, []⟩ = pure (ps.zip us))
    (a : PySem.W.findIn K (.ref C) m = some (some (.ref f))) (i : PySem.W.isFn K (.ref f) = true) (l : K.lookup f = some ⟨oc, od, .func (PySem.W.fnOf m qual (defArgs st) (defBody st) (defScope st) .none kV dc pm an cd ct), sl⟩) (c : PySem.W.codeIn K cd qual = true) (k : PySem.W.keepIn K (.ref f) = true) : HasM K C m qual st ps :=
  let F := fun_mk (st := st) l c k
  ⟨f, _, F, ⟨a, i, k⟩, b kV dc pm an cd ct⟩
omit [TabEnv] in
theorem has_ofC {K : PySem.W.Frag} {h : Heap} {mg : Str → Option Value} {C f : Addr} {x qual : Str} {st : Stmt} {ps : List Str} {od an : Option Addr} {sl : Array (Option Value)} {oc kV dc pm cd ct : Value} (X : K.In h) (G : h.Ns mainGlobals mg)
    (b : ∀ (kV doc pm : Value) (an : Option Addr) (cdv ct : Value) (us : List Value), us.length = ps.length → bindArgs (PySem.W.fnOf "__init__" qual (defArgs st) (defBody st) (defScope st) .none kV doc pm an cdv ct) ⟨us, []⟩ = pure (ps.zip us))
    (aC : PySem.W.nsIn K mainGlobals x = some (some (.ref C))) (mk : PySem.W.makesIn K C = true) (kc : PySem.W.keepIn K (.ref C) = true)
    (a : PySem.W.findIn K (.ref C) "__init__" = some (some (.ref f))) (i : PySem.W.isFn K (.ref f) = true) (l : K.lookup f = some ⟨oc, od, .func (PySem.W.fnOf "__init__" qual (defArgs st) (defBody st) (defScope st) .none kV dc pm an cd ct), sl⟩) (c : PySem.W.codeIn K cd qual = true) (k : PySem.W.keepIn K (.ref f) = true) : HasC K mg x C qual st ps :=
  let F := fun_mk (st := st) l c k
  ⟨f, _, F, ⟨mk, a, i, kc⟩, PySem.W.mg_of X G aC, b kV dc pm an cd ct⟩
/-- the law's promise: a list of at most n whole numbers is handed in, True comes out -/
def spLaw (n : Nat) (K : PySem.W.Frag) : Sp := fun vs H Q _ => ∃ (a : Addr) (ns : List Int), vs = [.ref a] ∧ SqL K H a (ns.map V.int) ∧ ns.length ≤ n ∧ LamX.Tabs TabEnv.T H ∧ ∀ H', Q (.bl true) H'
open Classical in
omit [TabEnv] in
/-- all but the tables -/
noncomputable def noTbl (H : Hp) : Hp := fun b => if ∃ ps, H b = some (.tbl ps) then none else H b
omit [TabEnv] in
theorem noTbl_same (H : Hp) : Same (noTbl H) H := fun b o e => by
  unfold noTbl at e
  split at e
  · cases e
  · exact e
omit [TabEnv] in
theorem noTbl_at {H : Hp} {b : Addr} {o : HO} (h : H b = some o) (n : ∀ ps, o ≠ .tbl ps) : noTbl H b = some o := by
  unfold noTbl
  rw [if_neg, h]
  rintro ⟨ps, e⟩
  rw [h] at e
  exact n ps (Option.some.inj e)
omit [TabEnv] in
theorem noTbl_sq {K : PySem.W.Frag} {H : Hp} {a : Addr} {xs : List V} (h : SqL K H a xs) : SqL K (noTbl H) a xs := by
  rcases h with (h | ⟨o, h⟩) | h
  · exact .inl (.inl (noTbl_at h fun ps z => by cases z))
  · exact .inl (.inr ⟨o, noTbl_at h fun ps z => by cases z⟩)
  · exact .inr h
theorem law_sp {K : PySem.W.Frag} {n : Nat} {g : G} (ht : ∀ ns : List Int, ns.length ≤ n → ∃ S, g [scr ns] [] = .ok (.v (.bl true)) S) : ∀ vs H Q E, spLaw n K vs H Q E → spG K g vs H Q E := by
  rintro vs H Q E ⟨a, ns, rfl, hS, hl, hT, q⟩
  obtain ⟨S, e⟩ := ht ns hl
  refine ⟨fun _ => none, noTbl H, [], [], [scr ns], ?_, .cons (.scr (noTbl_sq hS) (reps_ints ns)) .nil, ?_⟩
  · exact { ex := noTbl_same H, exz := fun _ _ e => (by cases e), fz := fun _ _ e => (by cases e), len := rfl, slot := fun i x e => (by simp at e), own := fun i x e => (by simp at e), dis := fun i j a m m' e => (by simp at e), lm := rfl, sto := fun n a m e => (by simp at e), dst := fun i n a m e => (by simp at e), ndm := fun n k a e => (by simp at e), tab := hT }
  · rw [e]
    intro v F' μ' H' _ _ r
    cases r
    exact q _
/-- the law's def, as the end wants it -/
theorem law_okS {P : Program} {w : World} {K : PySem.W.Frag} {mg : Str → Option Value} {fa : Addr} {x p : Str} {k n : Nat} {g : G} (ht : ∀ ns : List Int, ns.length ≤ n → ∃ S, g [scr ns] [] = .ok (.v (.bl true)) S) (hfa : mg x = some (.ref fa)) (d : ∃ f fd, mg x = some (.ref f) ∧ (∀ us : List Value, us.length = 1 → bindArgs fd ⟨us, []⟩ = pure ([p].zip us)) ∧ ∀ base : Heap, K.In base → base.Ns mainGlobals mg → FnOk P w K mg base (L2N.CX P w) k f fd [p] (spG K g)) :
    ∃ fd : FuncData, (∀ (s : Shared) (v : Value), BindsTo s fd ⟨[v], []⟩ [(p, v)]) ∧ ∀ base : Heap, K.In base → base.Ns mainGlobals mg → FnOk P w K mg base (L2N.CX P w) k fa fd [p] (spLaw n K) := by
  obtain ⟨f, fd, h1, h2, h3⟩ := d
  have e := hfa.symm.trans h1
  cases e
  exact ⟨fd, fun s v => .of_eq (h2 [v] rfl), fun base a b => (h3 base a b).imp (law_sp ht)⟩
omit [TabEnv] in
def rngC (lo c : Int) (n : Nat) : List D := (List.range n).map fun k => .v (.int (lo + (k : Nat) * c))
omit [TabEnv] in
theorem wk_rangeC {K : PySem.W.Frag} {F : Hp} {μ : List Addr} {lo c : Int} {n : Nat} : Wk K F μ (Itc lo c n) (rngC lo c n) where
  go := fun i H s hi => by
    have : i < n := by simpa [rngC] using hi
    exact this
  stop := fun i H s hi => by
    have : n ≤ i := by simpa [rngC] using hi
    exact this
  yld := fun i H x H' s hi ⟨e, y⟩ => by
    have hi' : i < n := by simpa [rngC] using hi
    refine ⟨.v (.int (lo + (i : Nat) * c)), ?_, .inl ⟨e, by rw [y]; exact .v _⟩⟩
    unfold rngC
    rw [List.getElem?_map, List.getElem?_range hi']
    rfl
omit [TabEnv] in
def rng3X (ds : List D) : M (List D) := match ds with
  | [.v (.int i), .v (.int j), .v (.int c)] => if c ≠ 0 ∧ c.natAbs < 1073741824 ∧ Builtin.Range.small i j c = true ∧ Builtin.Range.rangeSize i j c = ((Builtin.Range.rangeSize i j c).toNat : Nat) then M.pure (rngC i c (Builtin.Range.rangeSize i j c).toNat) else M.no
  | _ => M.no
theorem id_range3 {X : Cx} {W : WX} {tg a b e : Expr} {ta : TA} {p pos : Pos} {da : M (List D)} (hg : Gl X "range") (hm : X.mg "range" = none) (ha : AD X W [a, b, e] ta da) (hs : starEach [a, b, e] X.env = (false, eval a X.env) :: starEach [b, e] X.env := by rfl) (hpl : (backTo pos (starEach [b, e] X.env)).any (·.1) = false := by rfl) :
    ID X W tg (.Call (.Name "range" p) [a, b, e] [] pos) (iRng3 ta) (M.bind da rng3X) :=
  ⟨pi_range3 hg hm ha.pa hs hpl, fun Z F μ c σ H P R p => ha.ev Z F μ c σ H _ R (p.bind.imp fun ds c1 F1 μ1 H1 l1 R1 p1 vs rs => by
    unfold rng3X at p1
    split at p1
    · next i j c =>
      split at p1
      · next hz =>
        cases rs with
        | cons r rs =>
          cases r
          cases rs with
          | cons r rs =>
            cases r
            cases rs with
            | cons r rs =>
              cases r
              cases rs
              exact ⟨i, j, c, _, rfl, hz, p1 F1 μ1 H1 (Le.refl _ _) R1 _ wk_rangeC⟩
      · exact p1.elim
    · exact p1.elim)⟩
omit [TabEnv] in
theorem na_of {K : PySem.W.Frag} {C : Addr} {f : Str} (h : PySem.W.findIn K (.ref C) f = some none) : NoAttr K C f := h
omit [TabEnv] in
theorem u66 {k : Nat} {A : Around} (r : Room k A) : A.units + 66 < cLine := by
  have := r.un
  omega
end My

set_option Elab.async false
set_option linter.all false
set_option maxRecDepth 100000
set_option maxHeartbeats 4000000
/-! F15: two readings of one text; texts; slices of texts and tuples; classes not told ahead. -/
namespace My
open PySem L2
variable [TabEnv]
omit [TabEnv] in
/-- the first image that says something -/
def dElse {α : Type} (a b : M α) : M α := fun c => match a c with
  | .no => b c
  | r => r
section
variable {X : Cx} {W : WX} {e a b : Expr} {t t' ta tb : TE} {pos : Pos}
omit [TabEnv] in
theorem pe_or (h : PE X e t) (h' : PE X e t') : PE X e (fun σ H Q => t σ H Q ∨ t' σ H Q) := ⟨fun pins s σ H Q I q => q.elim (h.run pins s σ H Q I) (h'.run pins s σ H Q I)⟩
theorem dd_or {d d' : M D} (h : DD X W e t d) (h' : DD X W e t' d') : DD X W e (fun σ H Q => t σ H Q ∨ t' σ H Q) (dElse d d') := ⟨pe_or h.pe h'.pe, fun Z F μ c σ H Q R p => by
  unfold dElse at p
  split at p
  · exact .inr (h'.ev Z F μ c σ H Q R p)
  · exact .inl (h.ev Z F μ c σ H Q R p)⟩
theorem ed_or2 {d d' : M O} (h : ED X W e t d) (h' : ED X W e t' d') : ED X W e (fun σ H Q => t σ H Q ∨ t' σ H Q) (dElse d d') := ⟨pe_or h.pe h'.pe, fun Z F μ c σ H Q R p => by
  unfold dElse at p
  split at p
  · exact .inr (h'.ev Z F μ c σ H Q R p)
  · exact .inl (h.ev Z F μ c σ H Q R p)⟩
/-! ### a field, whatever the class -/
omit [TabEnv] in
def insA (c : Stt) : O → Option (Addr × List (Str × D))
  | .d (.loc n) => match c.S[n]? with
    | some (.ins C fs) => some (C, fs)
    | _ => none
  | _ => none
omit [TabEnv] in
def dFldA (Cs : List Addr) (f : Str) (dob : M O) : M D := M.bind dob fun x c => match insA c x with
  | some (C, fs) => if C ∈ Cs then match fs.lookup f with
      | some y => .ok y c
      | none => .no
    else .no
  | none => .no
omit [TabEnv] in
theorem insA_O {c : Stt} {x : O} {C : Addr} {fs : List (Str × D)} (h : insA c x = some (C, fs)) : insO c C x = some fs := by
  unfold insA at h
  split at h
  · next n =>
    split at h
    · next C' fs' hs =>
      cases h
      unfold insO insD
      dsimp only
      rw [hs]
      exact if_pos rfl
    · cases h
  · cases h
theorem dd_fldA {K : PySem.W.Frag} {Cs : List Addr} {f : Str} {to : TE} {o : Expr} {dob : M O} (cl : ∀ C ∈ Cs, Cls X.K C ∧ NoAttr X.K C f) (ho : ED X W o to dob) (hb : attributeBase o f X.env (eval o X.env) = eval o X.env := by rfl) (hK : X.K = K := by rfl) : DD X W (.Attribute o f pos) (tFld K to f) (dFldA Cs f dob) := by
  subst hK
  exact ⟨pe_fld ho.pe hb, fun Z F μ c σ H Q R p => ho.ev Z F μ c σ H _ R (p.bind.imp fun x c1 F1 μ1 H1 l1 R1 p1 v r => by
    split at p1
    · next C fs hfs =>
      split at p1
      · next hC =>
        split at p1
        · next y hy =>
          obtain ⟨a, dx, gs, n, rfl, rfl, hn, hs, ha, k, rs⟩ := ins_atO R1 r (insA_O hfs)
          obtain ⟨u, hu, ru⟩ := lookup_rep k rs hy
          exact ⟨a, C, dx, gs, u, rfl, ha, (cl C hC).1, (cl C hC).2, hu, p1 F1 μ1 H1 (Le.refl _ _) R1 _ ru⟩
        · exact p1.elim
      · exact p1.elim
    · exact p1.elim)⟩
/-! ### slices of texts and tuples -/
omit [TabEnv] in
def dSlD (da : M O) (dl du : M (Option Int)) : M D := M.bind da fun o => M.bind dl fun lo => M.bind du fun hi c => match o with
  | .d (.v (.str z)) => if z.length ≤ 1000000 then .ok (.v (.str (cutS z lo hi))) c else .no
  | .d (.tup ds) => .ok (.tup (cutL ds lo hi)) c
  | _ => .no
omit [TabEnv] in
theorem cut_whole {α : Type} (xs : List α) {lo hi : Option Int} (h : HT.sIx xs.length 0 lo = 0 ∧ HT.sIx xs.length xs.length hi = xs.length) : cutL xs lo hi = xs := by
  unfold cutL
  rw [h.1, h.2]
  simp
theorem dd_sl {K : PySem.W.Frag} {lo hi : Option Expr} {tl th : TO} {da : M O} {dl du : M (Option Int)} {p2 : Pos} (h : ED X W a ta da) (hl : OD X W lo tl dl) (hu : OD X W hi th du) (hK : X.K = K := by rfl) : DD X W (.Subscript a (.Slice lo hi none p2) pos) (tSl (fun x lo hi H Q => rSlS x lo hi H Q ∨ rSlA K x lo hi H Q) ta tl th) (dSlD da dl du) := by
  subst hK
  exact ⟨pe_slice (SlR.or sl_str sl_tupA) h.pe hl.po hu.po, fun Z F μ c σ H Q R p => h.ev Z F μ c σ H _ R (p.bind.imp fun o c1 F1 μ1 H1 l1 R1 p1 v1 r1 => hl.ev Z F1 μ1 c1 σ H1 _ R1 (p1.bind.imp fun l c2 F2 μ2 H2 l2 R2 p2 => hu.ev Z F2 μ2 c2 σ H2 _ R2 (p2.bind.imp fun u c3 F3 μ3 H3 l3 R3 p3 => by
    have r3 := (r1.mono l2).mono l3
    split at p3
    · next z =>
      split at p3
      · next hz =>
        cases r3 with
        | d r3 =>
          cases r3
          exact .inl ⟨z, rfl, small6 hz, p3 F3 μ3 H3 (Le.refl _ _) R3 _ (.v _)⟩
      · exact p3.elim
    · next ds =>
      cases r3 with
      | d r3 =>
        cases r3 with
        | tup hs rs =>
          refine .inr ⟨_, _, rfl, Same.seqT R3.ex hs, fun hw => ?_, fun _ q hq => ?_⟩
          · have e : cutL ds l u = ds := cut_whole ds (by rw [← rs.length]; exact hw)
            exact p3 F3 μ3 H3 (Le.refl _ _) R3 _ (by rw [e]; exact .tup hs rs)
          · obtain ⟨R4, l4⟩ := R3.new (o := .tup (cutV _ l u)) hq
            exact p3 _ _ _ l4 R4 _ (.tup (.of upd_same) (reps_cut (rs.mono l4) l u))
    · exact p3.elim)))⟩
/-! ### join -/
omit [TabEnv] in
def strsO (c : Stt) (o : O) : Option (List Str) := (seqD c o).bind strsD
omit [TabEnv] in
def dJoin (da db : M O) : M D := M.bind da fun x => M.bind db fun y c => match x, strsO c y with
  | .d (.v (.str a)), some ys => if (ys.map (·.length)).sum + ys.length * a.length ≤ 1000000 then .ok (.v (.str (Txt.join a ys))) c else .no
  | _, _ => .no
omit [TabEnv] in
def rJoin (K : PySem.W.Frag) : V → List V → Hp → VK → Prop := fun x xs H Q => ∃ a p, ∃ ys : List Str, x = .str a ∧ xs = [.ref p] ∧ (SqL K H p (ys.map V.str) ∨ SqT K H p (ys.map V.str)) ∧ (ys.map (·.length)).sum + ys.length * a.length ≤ 16777216 ∧ Q (.str (Txt.join a ys)) H
omit [TabEnv] in
def dIsStr (o : O) : Bool := match o with
  | .d (.v (.str _)) => true
  | _ => false
omit [TabEnv] in
def dJoinS (da db : M O) : M D := M.bind da fun x c => if dIsStr x = true then M.bind db (fun y c => match x, strsO c y with
  | .d (.v (.str a)), some ys => if (ys.map (·.length)).sum + ys.length * a.length ≤ 1000000 then .ok (.v (.str (Txt.join a ys))) c else .no
  | _, _ => .no) c else .no
theorem dd_join {K : PySem.W.Frag} {da db : M O} {apos : Pos} (ha : ED X W a ta da) (hb : ED X W b tb db) (hs : starEach [b] X.env = [(false, eval b X.env)] := by rfl) (hbase : attributeBase a "join" X.env (eval a X.env) = eval a X.env := by rfl) (hline : (apos.endLine == pos.line) = true := by rfl) (hK : X.K = K := by rfl) :
    DD X W (.Call (.Attribute a "join" apos) [b] [] pos) (tM1 (rJoin K) ta tb) (dJoinS da db) := by
  subst hK
  exact ⟨pe_join ha.pe hb.pe hs hbase hline, fun Z F μ c σ H Q R p => ha.ev Z F μ c σ H _ R (p.bind.imp fun x c1 F1 μ1 H1 l1 R1 p1 v1 r1 => by
    split at p1
    · next hi =>
      have hx : ∃ z, x = .d (.v (.str z)) := by
        unfold dIsStr at hi
        split at hi
        · exact ⟨_, rfl⟩
        · cases hi
      obtain ⟨z, rfl⟩ := hx
      cases r1 with
      | d r1 =>
        cases r1
        refine ⟨⟨z, rfl⟩, hb.ev Z F1 μ1 c1 σ H1 _ R1 (p1.bind.imp fun y c2 F2 μ2 H2 l2 R2 p2 v2 r2 => ?_)⟩
        split at p2
        · next a ys e1 e2 =>
          cases e1
          split at p2
          · next hz =>
            unfold strsO at e2
            cases q : seqD c2 y with
            | none => rw [q] at e2; cases e2
            | some ds =>
              rw [q] at e2
              obtain ⟨l, vs, rfl, h1, rs⟩ := seq_at R2 r2 q
              have := strs_of rs e2
              subst this
              exact ⟨_, l, ys, rfl, rfl, h1, Nat.le_trans hz (by decide), p2 F2 μ2 H2 (Le.refl _ _) R2 _ (.v _)⟩
          · exact p2.elim
        · exact p2.elim
    · exact p1.elim)⟩
/-! ### f() -/
omit [TabEnv] in
def dCall0 (g : G) : M D := fun c => match g [] c.S with
  | .ok d S => .ok d ⟨c.r, S⟩
  | _ => .no
theorem dd_fn0 {K : PySem.W.Frag} {k : Nat} {ps : List Str} {g : G} {x : Str} {p : Pos} (h : Okf X.prog X.w X.K X.mg X.base k x ps g) (hr : Room k X.A) (hg : Gl X x)
    (hdb : (x == ("__debug__" : Str)) = false := by decide) (hK : X.K = K := by rfl) :
    DD X W (.Call (.Name x p) [] [] pos) (tCall (spG K g) [] E00 tNil) (dCall0 g) := by
  subst hK
  obtain ⟨f, fd, F, hm, hk, hb⟩ := h
  refine ⟨pe_call0 F hr hg hm hk (.all hb) .nil passF hdb, fun Z F μ c σ H Q R p => ?_⟩
  exact sp_meth R .nil p
/-! ### isinstance, of an own class -/
omit [TabEnv] in
def ownA (c : Stt) : D → Option Addr
  | .loc n => match c.S[n]? with
    | some (.ins C _) => some C
    | _ => none
  | _ => none
omit [TabEnv] in
/-- what the top tells of classes: is C' of C -/
def gIsO (b : Bool) (C' : Addr) : D → M D := fun x c => match ownA c x with
  | some C => if C = C' then .ok (.v (.bl b)) c else .no
  | none => .no
omit [TabEnv] in
structure ClsI (K : PySem.W.Frag) (C : Addr) : Prop where
  cl : Cls K C
  ha : PySem.W.findIn K (.ref C) "__class__" = some (some (.builtin "object.__class__"))
  hn : PySem.W.specialIn K (.builtin "object.__class__") "__get__" = some (some (.builtin "getset_descriptor.__get__"))
  htk : PySem.W.takesIn K (.builtin "object.__class__") = some true
  hm : PySem.W.mroIn K C (.type "object") = some true
theorem dd_isiO {K : PySem.W.Frag} {x : Str} {C C' : Addr} {b : Bool} {ta : TE} {p q : Pos} {dx : M D} (hg : Gl X "isinstance") (hm : X.mg "isinstance" = none) (hv : bootBuiltins "isinstance" = some (.builtin "isinstance")) (ha : DD X W a ta dx) (hg2 : Gl X x) (hm2 : X.mg x = some (.ref C)) (ci : ClsI X.K C') (hk : PySem.W.kitOne X.K (.ref C') (.ref C) = some b)
    (hs : starEach [a, .Name x q] X.env = (false, eval a X.env) :: starEach [.Name x q] X.env := by rfl) (hs2 : starEach [.Name x q] X.env = (false, eval (.Name x q) X.env) :: starEach [] X.env := by rfl) (hdb : (x == ("__debug__" : Str)) = false := by decide)
    (he : starEach [a, .Name x q] X.env = (false, eval a X.env) :: starEach [.Name x q] X.env := by rfl) (hpl : (backTo pos (starEach [.Name x q] X.env)).any (·.1) = false := by rfl) (hK : X.K = K := by rfl) :
    DD X W (.Call (.Name "isinstance" p) [a, .Name x q] [] pos) (tCB (rIsi K) (tCons ta (tCons (tC (.ref C)) tNil))) (M.bind dx (gIsO b C')) := by
  subst hK
  exact ⟨pe_callB call_isi hg hm hv (pa_cons ha.pe (pa_cons (pe_glob hg2 hm2 rfl hdb) pa_nil hs2) hs) (by decide) (by decide) he hpl, fun Z F μ c σ H Q R p => ha.ev Z F μ c σ H _ R (p.bind.imp fun x c1 F1 μ1 H1 l1 R1 p1 v1 r1 => by
    unfold gIsO at p1
    split at p1
    · next C2 hC =>
      split at p1
      · next e =>
        subst e
        have hi : ∃ fs, insD c1 C2 x = some fs := by
          unfold ownA at hC
          split at hC
          · next n =>
            split at hC
            · next C3 fs hs =>
              cases hC
              refine ⟨fs, ?_⟩
              unfold insD
              dsimp only
              rw [hs]
              exact if_pos rfl
            · cases hC
          · cases hC
        obtain ⟨fs, hfs⟩ := hi
        obtain ⟨a, dx, gs, n, rfl, rfl, hn, hs, hh, k, rs⟩ := ins_at R1 r1 hfs
        exact ⟨.ref a, .ref C, .ref C2, .ref C, b, rfl, .own C, .base (.ins hh ci.cl ci.ha ci.hn ci.htk ci.hm), hk, p1 F1 μ1 H1 (Le.refl _ _) R1 _ (.v _)⟩
      · exact p1.elim
    · exact p1.elim)⟩
end
end My

set_option Elab.async false
set_option linter.all false
set_option maxRecDepth 100000
set_option maxHeartbeats 4000000
/-! F16: methods and fields of objects whose class is one of some; a row taken apart. -/
namespace My
open PySem L2
variable [TabEnv]
section
variable {X : Cx} {W : WX} {o e : Expr} {t to te : TE} {pos apos : Pos} {dob : M O} {dv : M D} {es : List Expr} {tr : TA} {dr : M (List D)}
omit [TabEnv] in
theorem pe_some {α : Type} {L : List α} {t : α → TE} (h : ∀ p ∈ L, PE X e (t p)) : PE X e (fun σ H Q => ∃ p, p ∈ L ∧ t p σ H Q) := ⟨fun pins s σ H Q I ⟨p, hp, q⟩ => (h p hp).run pins s σ H Q I q⟩
omit [TabEnv] in
/-- o.m(..), by the class -/
def dMethL (L : List (Addr × G)) (m : Str) (dob : M O) (dr : M (List D)) : M D := fun c => match dob c with
  | .ok x c1 => match insA c1 x with
    | some p => match L.lookup p.1 with
      | some g => dMeth p.1 m g dob dr c
      | none => .no
    | none => .no
  | _ => .no
omit [TabEnv] in
theorem lookup_mem {L : List (Addr × G)} {C : Addr} {g : G} (h : L.lookup C = some g) : (C, g) ∈ L := by
  induction L with
  | nil => cases h
  | cons p L ih =>
    obtain ⟨a, b⟩ := p
    rw [List.lookup_cons] at h
    cases q : C == a with
    | true =>
      rw [q] at h
      cases h
      rw [beq_iff_eq.mp q]
      exact List.mem_cons_self
    | false =>
      rw [q] at h
      exact List.mem_cons_of_mem _ (ih h)
theorem ev_methL {K : PySem.W.Frag} {L : List (Addr × G)} {m : Str} (ho : EvE K W to dob) (ha : EvA K W tr dr) : EvD K W (fun σ H Q => ∃ p : Addr × G, p ∈ L ∧ tMeth p.1 m (spG K p.2) [] E00 to tr σ H Q) (dMethL L m dob dr) := fun Z F μ c σ H Q R p => by
  unfold dMethL at p
  split at p
  · split at p
    · next q hq =>
      split at p
      · next g hg => exact ⟨(q.1, g), lookup_mem hg, ev_meth ho ha Z F μ c σ H Q R p⟩
      · exact p.elim
    · exact p.elim
  · exact p.elim
def OkmL (P : Program) (w : World) (K : PySem.W.Frag) (mg : Str → Option Value) (base : Heap) (k : Nat) (L : List (Addr × G)) (m : Str) (ps : List Str) : Prop := ∀ p ∈ L, Okm P w K mg base k p.1 m ps p.2 ∧ Cls K p.1
theorem dd_methL {K : PySem.W.Frag} {L : List (Addr × G)} {m : Str} {k : Nat} {ps : List Str} {pl : Sem Bool} (h : OkmL X.prog X.w X.K X.mg X.base k L m ps) (hr : Room k X.A) (ho : ED X W o to dob) (ha : AD X W (e :: es) tr dr)
    (hst : starEach (e :: es) X.env = (false, eval e X.env) :: starEach es X.env := by rfl) (hpl : (backTo pos (starEach es X.env)).any (·.1) = false := by rfl)
    (ht : eval (.Call (.Attribute o m apos) (e :: es) [] pos) X.env = (do
      let ov ← eval o X.env
      standAt apos.atName
      let (f, first) ← holding [ov] (getMethod ov m pl)
      callWith pos f first (backTo pos (starEach (e :: es) X.env)) (backToKw pos (keywordEach [] X.env))) := by rfl) (hK : X.K = K := by rfl) :
    DD X W (.Call (.Attribute o m apos) (e :: es) [] pos) (fun σ H Q => ∃ p : Addr × G, p ∈ L ∧ tMeth p.1 m (spG K p.2) [] E00 to tr σ H Q) (dMethL L m dob dr) := by
  subst hK
  exact ⟨pe_some fun p hp => (dd_meth (pl := pl) (h p hp).1 hr (h p hp).2 ho ha hst hpl ht).pe, ev_methL ho.ev ha.ev⟩
theorem dd_methL0 {K : PySem.W.Frag} {L : List (Addr × G)} {m : Str} {k : Nat} {ps : List Str} {pl : Sem Bool} (h : OkmL X.prog X.w X.K X.mg X.base k L m ps) (hr : Room k X.A) (ho : ED X W o to dob)
    (ht : eval (.Call (.Attribute o m apos) [] [] pos) X.env = (do
      let ov ← eval o X.env
      standAt apos.atName
      let (f, first) ← holding [ov] (getMethod ov m pl)
      callWith pos f first (backTo pos (starEach [] X.env)) (backToKw pos (keywordEach [] X.env))) := by rfl) (hK : X.K = K := by rfl) :
    DD X W (.Call (.Attribute o m apos) [] [] pos) (fun σ H Q => ∃ p : Addr × G, p ∈ L ∧ tMeth p.1 m (spG K p.2) [] E00 to tNil σ H Q) (dMethL L m dob dNil) := by
  subst hK
  exact ⟨pe_some fun p hp => (dd_meth0 (pl := pl) (h p hp).1 hr (h p hp).2 ho ht).pe, ev_methL ho.ev (ad_nil (X := X)).ev⟩
omit [TabEnv] in
/-- o.f = e, whatever the class -/
def dSetFA (Cs : List Addr) (f : Str) (dv : M D) (dob : M O) : M Fl := M.bind dv fun y => M.bind dob fun x c => match x with
  | .d (.loc n) => match insA c (.d (.loc n)) with
    | some (C, fs) => if C ∈ Cs ∧ fs.length < 1000 then .ok .nx ⟨c.r, c.S.set n (.ins C (putFD f y fs))⟩ else .no
    | none => .no
  | _ => .no
theorem sd_fldA {K : PySem.W.Frag} {Cs : List Addr} {f : Str} {pos' : Pos} (cl : ∀ C ∈ Cs, Cls X.K C ∧ NoAttr X.K C f) (ho : ED X W o to dob) (hv : DD X W e te dv) (hs : swapsWith e (some (.Attribute o f pos')) pos.line X.env = pure false := by rfl) (hK : X.K = K := by rfl) : SD X W (.Assign [.Attribute o f pos'] e pos) (sFld K to te f) (dSetFA Cs f dv dob) := by
  subst hK
  exact ⟨ps_fld ho.pe hv.pe hs, fun Z F μ c σ H D R p => hv.ev Z F μ c σ H _ R (p.bind.imp fun y c1 F1 μ1 H1 l1 R1 p1 v r => ho.ev Z F1 μ1 c1 σ H1 _ R1 (p1.bind.imp fun x c2 F2 μ2 H2 l2 R2 p2 u ru => by
    split at p2
    · next n =>
      split at p2
      · next C fs hfs =>
        split at p2
        · next hz =>
          obtain ⟨a, dx, gs, n', e1, rfl, hn, hs, ha, k, rs⟩ := ins_atO R2 ru (insA_O hfs)
          cases e1
          obtain ⟨k', rs'⟩ := putF_rep (f := f) (r.mono l2) k rs
          have hl : gs.length < 1000 := by
            have : (gs.map (·.1)).length = (fs.map (·.1)).length := by rw [k]
            rw [List.length_map, List.length_map] at this
            omega
          exact ⟨a, C, dx, gs, rfl, ha, (cl C hz.1).1, (cl C hz.1).2, hl, p2 _ F2 μ2 _ (Le.refl _ _) (R2.put hs trivial hn (.ins k' rs'))⟩
        · exact p2.elim
      · exact p2.elim
    · exact p2.elim))⟩
/-! ### a list taken apart -/
omit [TabEnv] in
def dUnlG (n : Nat) (dr : List D → M Unit) (x : D) : M Unit := fun c => match x with
  | .lst ds => if ds.length = n then dr ds c else .no
  | _ => .no
theorem gd_unl {K : PySem.W.Frag} {es : List Expr} {k n : Nat} {vs : List Nat} {g : TGs} {d : List D → M Unit} (hc : X.calm = true) (h : GDs X es vs g d) (hn : (assignEach es X.env).length = n := by rfl) (hst : (assignEach es X.env).findIdx? (·.1) = none := by rfl) (hK : X.K = K := by rfl) :
    GD X (.Tuple es k pos) vs (gUnl K n g) (dUnlG n d) := by
  subst hK
  exact ⟨pg_unl hc h.pg hn hst, fun Z F μ c σ H Q v x R r ⟨c', e, k⟩ => by
    unfold dUnlG at e
    split at e
    · next ds =>
      split at e
      · next hl =>
        cases r with
        | lst hs rs => exact ⟨_, _, rfl, .of (R.ex _ _ hs), by rw [rs.length]; exact hl, h.ev Z F μ c σ H Q _ _ R rs ⟨c', e, k⟩⟩
      · cases e
    · cases e⟩
end
end My

set_option Elab.async false
set_option linter.all false
set_option maxRecDepth 100000
set_option maxHeartbeats 4000000
/-! F17: what is never reached; dicts of the store; a base class's function by its class; pop of a place; is True. -/
namespace My
open PySem L2
variable [TabEnv]
section
variable {X : Cx} {W : WX} {e o a b i : Expr} {t to te ti ta tb : TE} {pos apos : Pos} {dob da db : M O} {dv di : M D} {es : List Expr} {tr : TA} {dr : M (List D)}
/-! ### never reached -/
omit [TabEnv] in
theorem pe_nv : PE X e (fun _ _ _ => False) := ⟨fun _ _ _ _ _ _ h => h.elim⟩
theorem ed_nv : ED X W e (fun _ _ _ => False) (M.no) := ⟨pe_nv, fun _ _ _ _ _ _ _ _ p => p.elim⟩
theorem dd_nv : DD X W e (fun _ _ _ => False) (M.no) := ⟨pe_nv, fun _ _ _ _ _ _ _ _ p => p.elim⟩
theorem sd_nv {st : Stmt} : SD X W st (fun _ _ _ => False) (M.no) := ⟨⟨fun _ _ _ _ _ _ h => h.elim⟩, fun _ _ _ _ _ _ _ _ p => p.elim⟩
/-! ### dicts of the store -/
omit [TabEnv] in
def dctD (c : Stt) : O → Option (List (Key × D))
  | .d (.loc n) => match c.S[n]? with
    | some (.dct kvs) => some kvs
    | _ => none
  | _ => none
omit [TabEnv] in
def keyD : D → Option Key
  | .v (.int i) => some (.inl i)
  | .v (.str x) => some (.inr x)
  | _ => none
omit [TabEnv] in
def valD (kvs : List (Key × D)) (k : Key) : Option D := (kvs.find? fun kv => decide (kv.1 = k)).map (·.2)
omit [TabEnv] in
def putD (kvs : List (Key × D)) (k : Key) (v : D) : List (Key × D) :=
  if (kvs.any fun kv => decide (kv.1 = k)) = true then kvs.map (fun kv => if kv.1 = k then (kv.1, v) else kv) else kvs ++ [(k, v)]
omit [TabEnv] in
theorem val_rep {K : PySem.W.Frag} {F : Hp} {μ : List Addr} {k : Key} {x : D} : ∀ {ds : List (Key × D)} {kvs : List (Key × V)}, kvs.map (·.1) = ds.map (·.1) → Reps K F μ (kvs.map (·.2)) (ds.map (·.2)) → valD ds k = some x → ∃ v, valV kvs k = some v ∧ Rep K F μ v x
  | [], _, _, _, e => by cases e
  | _ :: _, [], h, _, _ => by cases h
  | (f1, f2) :: ds, (a1, a2) :: kvs, h, r, e => by
    rw [List.map_cons, List.map_cons] at h r
    obtain ⟨h1, h2⟩ := List.cons.inj h
    replace h1 : a1 = f1 := h1
    subst h1
    cases r with
    | cons r1 r2 =>
      unfold valD at e
      unfold valV
      rw [List.find?_cons] at e ⊢
      by_cases q : a1 = k
      · simp only [q, decide_true] at e ⊢
        cases e
        exact ⟨_, rfl, r1⟩
      · simp only [q, decide_false] at e ⊢
        exact val_rep h2 r2 e
omit [TabEnv] in
theorem val_none {k : Key} : ∀ {ds : List (Key × D)} {kvs : List (Key × V)}, kvs.map (·.1) = ds.map (·.1) → valD ds k = none → valV kvs k = none
  | [], [], _, _ => rfl
  | [], _ :: _, h, _ => by cases h
  | _ :: _, [], h, _ => by cases h
  | (f1, f2) :: ds, (a1, a2) :: kvs, h, e => by
    rw [List.map_cons, List.map_cons] at h
    obtain ⟨h1, h2⟩ := List.cons.inj h
    replace h1 : a1 = f1 := h1
    subst h1
    unfold valD at e
    unfold valV
    rw [List.find?_cons] at e ⊢
    by_cases q : a1 = k
    · simp only [q, decide_true] at e
      cases e
    · simp only [q, decide_false] at e ⊢
      exact val_none h2 e
omit [TabEnv] in
theorem any_keys {k : Key} : ∀ {ds : List (Key × D)} {kvs : List (Key × V)}, kvs.map (·.1) = ds.map (·.1) → (kvs.any fun kv => decide (kv.1 = k)) = (ds.any fun kv => decide (kv.1 = k))
  | [], [], _ => rfl
  | [], _ :: _, h => by cases h
  | _ :: _, [], h => by cases h
  | (f1, f2) :: ds, (a1, a2) :: kvs, h => by
    rw [List.map_cons, List.map_cons] at h
    obtain ⟨h1, h2⟩ := List.cons.inj h
    replace h1 : a1 = f1 := h1
    subst h1
    rw [List.any_cons, List.any_cons, any_keys h2]
omit [TabEnv] in
theorem put_map {K : PySem.W.Frag} {F : Hp} {μ : List Addr} {k : Key} {v : V} {x : D} (rv : Rep K F μ v x) : ∀ {ds : List (Key × D)} {kvs : List (Key × V)}, kvs.map (·.1) = ds.map (·.1) → Reps K F μ (kvs.map (·.2)) (ds.map (·.2)) →
    (kvs.map (fun kv => if kv.1 = k then (kv.1, v) else kv)).map (·.1) = (ds.map (fun kv => if kv.1 = k then (kv.1, x) else kv)).map (·.1) ∧ Reps K F μ ((kvs.map (fun kv => if kv.1 = k then (kv.1, v) else kv)).map (·.2)) ((ds.map (fun kv => if kv.1 = k then (kv.1, x) else kv)).map (·.2))
  | [], [], _, _ => ⟨rfl, .nil⟩
  | [], _ :: _, h, _ => by cases h
  | _ :: _, [], h, _ => by cases h
  | (f1, f2) :: ds, (a1, a2) :: kvs, h, r => by
    rw [List.map_cons, List.map_cons] at h r
    obtain ⟨h1, h2⟩ := List.cons.inj h
    replace h1 : a1 = f1 := h1
    subst h1
    cases r with
    | cons r1 r2 =>
      obtain ⟨e1, e2⟩ := put_map rv h2 r2
      by_cases q : a1 = k
      · simp only [List.map_cons, q, if_true]
        exact ⟨congrArg _ e1, .cons rv e2⟩
      · simp only [List.map_cons, q, if_false]
        exact ⟨congrArg _ e1, .cons r1 e2⟩
omit [TabEnv] in
theorem put_rep {K : PySem.W.Frag} {F : Hp} {μ : List Addr} {k : Key} {v : V} {x : D} (rv : Rep K F μ v x) {ds : List (Key × D)} {kvs : List (Key × V)} (h : kvs.map (·.1) = ds.map (·.1)) (r : Reps K F μ (kvs.map (·.2)) (ds.map (·.2))) :
    (putK kvs k v).map (·.1) = (putD ds k x).map (·.1) ∧ Reps K F μ ((putK kvs k v).map (·.2)) ((putD ds k x).map (·.2)) := by
  unfold putK putD
  rw [any_keys h]
  split
  · exact put_map rv h r
  · simp only [List.map_append, List.map_cons, List.map_nil]
    exact ⟨by rw [h], r.append (.cons rv .nil)⟩
theorem dct_at {K : PySem.W.Frag} {Z F : Hp} {μ : List Addr} {c : Stt} {σ : St} {H : Hp} {v : V} {x : O} {ds : List (Key × D)} (h : Rel K Z F μ c σ H) (r : RepO K F μ σ v x) (e : dctD c x = some ds) :
    ∃ a kvs n, x = .d (.loc n) ∧ v = .ref a ∧ μ[n]? = some a ∧ c.S[n]? = some (.dct ds) ∧ H a = some (.dK kvs) ∧ kvs.map (·.1) = ds.map (·.1) ∧ Reps K F μ (kvs.map (·.2)) (ds.map (·.2)) := by
  cases r with
  | d r =>
    cases r with
    | loc hn =>
      unfold dctD at e
      dsimp only at e
      split at e
      · next ds' hs =>
        cases e
        obtain ⟨_, _, ⟨u, e1, e2⟩, _⟩ := h.sto _ _ _ hn hs
        cases e2 with
        | dct k r => exact ⟨_, _, _, rfl, rfl, hn, hs, e1, k, r⟩
      · cases e
    | _ => cases e
  | sl q => cases e
omit [TabEnv] in
theorem key_at {K : PySem.W.Frag} {F : Hp} {μ : List Addr} {v : V} {x : D} {k : Key} (r : Rep K F μ v x) (e : keyD x = some k) : v = kV k := by
  cases r with
  | v => cases v <;> cases e <;> rfl
  | _ => cases e
omit [TabEnv] in
/-- {} -/
def dDct : M D := fun c => .ok (.loc c.S.length) ⟨c.r, c.S ++ [.dct []]⟩
theorem dd_dct : DD X W (.Dict [] [] pos) tDNewK dDct := ⟨pe_dnewK, fun Z F μ c σ H Q R p q hq => by
  have nb := R.nob hq
  obtain ⟨R2, l2⟩ := (R.up (same_new (o := .dK []) hq)).push (m := .dct []) upd_same nb.f nb.z nb.no nb.nm (.dct rfl .nil)
  refine p F _ _ l2 R2 _ (.loc ?_)
  have : μ.length = c.S.length := R.lm
  rw [← this]
  simp⟩
omit [TabEnv] in
/-- d[k] -/
def dDGet (dob : M O) (di : M D) : M D := M.bind dob fun x => M.bind di fun k c => match dctD c x, keyD k with
  | some kvs, some k => match valD kvs k with
    | some y => .ok y c
    | none => .no
  | _, _ => .no
theorem dd_dget (hu : X.A.units + 1 < cLine) (ho : ED X W o to dob) (hi : DD X W i ti di) (hs : NoSl i := by intro _ _; rfl) : DD X W (.Subscript o i pos) (tDGet to ti) (dDGet dob di) :=
  ⟨pe_dget hu ho.pe hi.pe hs, fun Z F μ c σ H Q R p => ho.ev Z F μ c σ H _ R (p.bind.imp fun x c1 F1 μ1 H1 l1 R1 p1 v r => hi.ev Z F1 μ1 c1 σ H1 _ R1 (p1.bind.imp fun k c2 F2 μ2 H2 l2 R2 p2 u ru => by
    split at p2
    · next kvs kk e1 e2 =>
      split at p2
      · next y hy =>
        obtain ⟨a, gs, n, rfl, rfl, hn, hs, ha, hk, rs⟩ := dct_at R2 (r.mono l2) e1
        obtain ⟨w, hw, rw'⟩ := val_rep hk rs hy
        have := key_at ru e2
        subst this
        have g := DGet.k (k := kk) ha
        rw [hw] at g
        exact ⟨a, w, rfl, g, p2 F2 μ2 H2 (Le.refl _ _) R2 _ rw'⟩
      · exact p2.elim
    · exact p2.elim))⟩
omit [TabEnv] in
/-- d[k] = e -/
def dDPut (dv : M D) (dob : M O) (di : M D) : M Fl := M.bind dv fun y => M.bind dob fun x => M.bind di fun k c => match x with
  | .d (.loc n) => match dctD c (.d (.loc n)), keyD k with
    | some kvs, some k => if kvs.length < 1000000 then .ok .nx ⟨c.r, c.S.set n (.dct (putD kvs k y))⟩ else .no
    | _, _ => .no
  | _ => .no
theorem sd_dput {pos' : Pos} (hu : X.A.units + 1 < cLine) (ho : ED X W o to dob) (hi : DD X W i ti di) (hv : DD X W e te dv) (hs : swapsWith e (some (.Subscript o i pos')) pos.line X.env = pure false := by rfl) : SD X W (.Assign [.Subscript o i pos'] e pos) (sDPut to ti te) (dDPut dv dob di) :=
  ⟨ps_dput hu ho.pe hi.pe hv.pe hs, fun Z F μ c σ H D R p => hv.ev Z F μ c σ H _ R (p.bind.imp fun y c1 F1 μ1 H1 l1 R1 p1 v r => ho.ev Z F1 μ1 c1 σ H1 _ R1 (p1.bind.imp fun x c2 F2 μ2 H2 l2 R2 p2 u ru => hi.ev Z F2 μ2 c2 σ H2 _ R2 (p2.bind.imp fun k c3 F3 μ3 H3 l3 R3 p3 w rw' => by
    split at p3
    · next n =>
      split at p3
      · next kvs kk e1 e2 =>
        split at p3
        · next hz =>
          obtain ⟨a, gs, n', e3, rfl, hn, hs, ha, hk, rs⟩ := dct_at R3 (ru.mono l3) e1
          cases e3
          have := key_at rw' e2
          subst this
          obtain ⟨k', rs'⟩ := put_rep (k := kk) ((r.mono l2).mono l3) hk rs
          have hl : gs.length < sizeLine := by
            have h1 : (gs.map (·.1)).length = (kvs.map (·.1)).length := by rw [hk]
            rw [List.length_map, List.length_map] at h1
            rw [h1]
            exact lt6 hz
          exact ⟨a, _, rfl, DPut.k (k := kk) ha hl, p3 _ F3 μ3 _ (Le.refl _ _) (R3.put hs trivial hn (.dct k' rs'))⟩
        · exact p3.elim
      · exact p3.elim
    · exact p3.elim)))⟩
/-! ### C.m(self, ..), C a class told by its name -/
def Okb (P : Program) (w : World) (K : PySem.W.Frag) (mg : Str → Option Value) (base : Heap) (k : Nat) (x m : Str) (ps : List Str) (g : G) : Prop :=
  ∃ C f fd, mg x = some (.ref C) ∧ ClX.CRead K C (.type "type") ∧ PySem.W.findCls K (.ref C) (.type "type") m = some (.val (.ref f)) ∧ PySem.W.keepIn K (.ref f) = true ∧ FnOk P w K mg base (L2N.CX P w) k f fd ps (spG K g) ∧ ∀ us : List Value, us.length = ps.length → bindArgs fd ⟨us, []⟩ = pure (ps.zip us)
omit [TabEnv] in
def dBase (g : G) (dr : M (List D)) : M D := M.bind dr fun ds c => match g ds c.S with
  | .ok d S => .ok d ⟨c.r, S⟩
  | _ => .no
omit [TabEnv] in
theorem getmethcf_ok {pins : List (Addr × Obj)} {σ : St} {H : Hp} {s : Shared} {C f : Addr} {mc : Value} {m : Str} {A : Around} {E : Value → Shared → Prop} {pl : Sem Bool} {Q : Value × List Value → Shared → Prop} (I : Inv X pins σ H s) (r : ClX.CRead X.K C mc) (k : PySem.W.findCls X.K (.ref C) mc m = some (.val (.ref f)))
    (h : ∀ s', Inv X pins σ H s' → Q (.ref f, []) s') : wpAny (model X.prog X.w) A (getMethod (.ref C) m pl) Q E s :=
  PySem.W.method_cls I.kIn r.ga (PySem.W.cls_value I.kIn r.rd k rfl (h _ (I.tok _)))
theorem dd_base {K : PySem.W.Frag} {k : Nat} {ps : List Str} {g : G} {x m : Str} {p : Pos} {pl : Sem Bool} (h : Okb X.prog X.w X.K X.mg X.base k x m ps g) (hr : Room k X.A) (hg : Gl X x) (ha : AD X W (e :: es) tr dr)
    (hdb : (x == ("__debug__" : Str)) = false := by decide) (hst : starEach (e :: es) X.env = (false, eval e X.env) :: starEach es X.env := by rfl) (hpl : (backTo pos (starEach es X.env)).any (·.1) = false := by rfl)
    (ht : eval (.Call (.Attribute (.Name x p) m apos) (e :: es) [] pos) X.env = (do
      let ov ← eval (.Name x p) X.env
      standAt apos.atName
      let (f, first) ← holding [ov] (getMethod ov m pl)
      callWith pos f first (backTo pos (starEach (e :: es) X.env)) (backToKw pos (keywordEach [] X.env))) := by rfl) (hK : X.K = K := by rfl) :
    DD X W (.Call (.Attribute (.Name x p) m apos) (e :: es) [] pos) (tCall (spG K g) [] E00 tr) (dBase g dr) := by
  subst hK
  obtain ⟨C, f, fd, hm, r, k1, kp, F, hb⟩ := h
  refine ⟨⟨fun pins s σ H Q I h => ?_⟩, fun Z F μ c σ H Q R p => ha.ev Z F μ c σ H _ R (p.bind.imp fun ds c1 F1 μ1 H1 l1 R1 p1 vs rs => by
    rw [List.append_nil]
    exact sp_meth R1 rs p1)⟩
  refine PySem.W.methodCall_KW (pl := pl) (thn ((pe_glob (X := X) (pos := p) (v := .ref C) hg hm rfl hdb).run pins s σ H (fun x H1 => x = .ref C ∧ tr σ H1 fun vs H2 => spG X.K g (vs ++ []) H2 Q E00) I ⟨rfl, h⟩) fun u s1 ⟨x, H1, I1, rx, ex, q⟩ => ?_) ht
  subst ex
  · obtain rfl : u = Value.ref C := rx
    refine getmethcf_ok I1 r k1 fun s2 I2 => ?_
    refine PySem.W.callWith_K (first := []) (h₀ := X.base) I.ok.mod.kin kp (thn (ha.pa.run pos pins s2 σ H1 _ I2 q) fun us s3 ⟨vs, H2, I3, r3, q2⟩ => ⟨I3.kIn, ?_⟩) hst hpl
    exact run_fn (us := us) F hr (.all hb) .nil passF I3 r3 q2
end
end My

set_option Elab.async false
set_option linter.all false
set_option maxRecDepth 100000
set_option maxHeartbeats 4000000
/-! F18: the tables of classes. -/
namespace My
open PySem L2
variable [TabEnv]
omit [TabEnv] in
theorem u1 {k : Nat} {A : Around} (r : Room k A) : A.units + 1 < cLine := by
  have := r.un
  omega
section
variable {P : Program} {w : World} {K : PySem.W.Frag} {mg : Str → Option Value} {base : Heap} {j k : Nat} {C : Addr} {x m qual : Str} {st : Stmt} {ps : List Str} {g : G}
theorem okm_of (h : HasM K C m qual st ps) (hjk : j ≤ k) (F : ∀ {f : Addr} {fd : FuncData}, Fun K m qual st f fd → FnOk P w K mg base (L2N.CX P w) j f fd ps (spG K g)) : Okm P w K mg base k C m ps g := by
  obtain ⟨f, fd, Fn, hm, hb⟩ := h
  exact ⟨f, fd, hm, (F Fn).mono hjk, hb⟩
theorem okc_of (h : HasC K mg x C qual st ps) (hjk : j ≤ k) (F : ∀ {f : Addr} {fd : FuncData}, Fun K "__init__" qual st f fd → FnOk P w K mg base (L2N.CX P w) j f fd ps (spG K g)) : Okc P w K mg base k x C ps g := by
  obtain ⟨f, fd, Fn, hm, hg, hb⟩ := h
  exact ⟨f, fd, hm, hg, (F Fn).mono hjk, hb⟩
omit [TabEnv] in
/-- where a class's function stands -/
def HasB (K : PySem.W.Frag) (mg : Str → Option Value) (x m qual : Str) (st : Stmt) (ps : List Str) : Prop := ∃ C f fd, Fun K m qual st f fd ∧ mg x = some (.ref C) ∧ ClX.CRead K C (.type "type") ∧ PySem.W.findCls K (.ref C) (.type "type") m = some (.val (.ref f)) ∧ ∀ us : List Value, us.length = ps.length → bindArgs fd ⟨us, []⟩ = pure (ps.zip us)
theorem okb_of (h : HasB K mg x m qual st ps) (hjk : j ≤ k) (F : ∀ {f : Addr} {fd : FuncData}, Fun K m qual st f fd → FnOk P w K mg base (L2N.CX P w) j f fd ps (spG K g)) : Okb P w K mg base k x m ps g := by
  obtain ⟨C, f, fd, Fn, hm, r, k1, hb⟩ := h
  exact ⟨C, f, fd, hm, r, k1, Fn.kp, (F Fn).mono hjk, hb⟩
omit [TabEnv] in
theorem has_ofB {h : Heap} {C f : Addr} {od an : Option Addr} {sl : Array (Option Value)} {oc kV dc pm cd ct : Value} (X : K.In h) (G : h.Ns mainGlobals mg)
    (b : ∀ (kV doc pm : Value) (an : Option Addr) (cdv ct : Value) (us : List Value), us.length = ps.length → bindArgs (PySem.W.fnOf m qual (defArgs st) (defBody st) (defScope st) .none kV doc pm an cdv ct) ⟨us, []⟩ = pure (ps.zip us))
    (aC : PySem.W.nsIn K mainGlobals x = some (some (.ref C))) (r1 : PySem.W.readsIn K C (.type "type") = true) (r2 : PySem.W.specialIn K (.ref C) "__getattribute__" = some (some (.builtin "type.__getattribute__")))
    (a : PySem.W.findCls K (.ref C) (.type "type") m = some (.val (.ref f))) (l : K.lookup f = some ⟨oc, od, .func (PySem.W.fnOf m qual (defArgs st) (defBody st) (defScope st) .none kV dc pm an cd ct), sl⟩) (c : PySem.W.codeIn K cd qual = true) (k : PySem.W.keepIn K (.ref f) = true) : HasB K mg x m qual st ps :=
  let F := fun_mk (st := st) l c k
  ⟨C, f, _, F, PySem.W.mg_of X G aC, ⟨r1, r2⟩, a, b kV dc pm an cd ct⟩
end
/-! ### is True, is False -/
section
variable {X : Cx} {W : WX}
omit [TabEnv] in
def gIsB : O → O → M D := fun a b c => match a, b with
  | .d (.v (.bl x)), .d (.v (.bl y)) => .ok (.v (.bl (decide (x = y)))) c
  | _, _ => .no
omit [TabEnv] in
def gNotB : O → O → M D := fun a b c => match a, b with
  | .d (.v (.bl x)), .d (.v (.bl y)) => .ok (.v (.bl (!decide (x = y)))) c
  | _, _ => .no
theorem cIsB : CmpR X W .Is rIsB gIsB := ⟨op_isBl, fun Z F μ c σ H Q x y a b R rx ry p => by
  unfold gIsB at p
  split at p
  · cases rx with
    | d rx =>
      cases ry with
      | d ry =>
        cases rx
        cases ry
        exact ⟨_, _, rfl, rfl, p F μ H (Le.refl _ _) R _ (.v _)⟩
  · exact p.elim⟩
theorem cNotB : CmpR X W .IsNot rNotB gNotB := ⟨op_notBl, fun Z F μ c σ H Q x y a b R rx ry p => by
  unfold gNotB at p
  split at p
  · cases rx with
    | d rx =>
      cases ry with
      | d ry =>
        cases rx
        cases ry
        exact ⟨_, _, rfl, rfl, p F μ H (Le.refl _ _) R _ (.v _)⟩
  · exact p.elim⟩
end
/-! ### isinstance, lists and dicts of the store too -/
omit [TabEnv] in
def tagS (c : Stt) : D → Option String
  | .loc n => match c.S[n]? with
    | some (.lst _) => some "list"
    | some (.dct _) => some "dict"
    | _ => none
  | x => tagD x
theorem ty_ofS {K : PySem.W.Frag} {Z F : Hp} {μ : List Addr} {c : Stt} {σ : St} {H : Hp} {v : V} {d : D} {t : String} (R : Rel K Z F μ c σ H) (r : Rep K F μ v d) (e : tagS c d = some t) : TyX K H v (.type t) := by
  cases r with
  | loc hn =>
    unfold tagS at e
    dsimp only at e
    split at e
    · next ds hs =>
      cases e
      obtain ⟨_, _, ⟨u, e1, e2⟩, _⟩ := R.sto _ _ _ hn hs
      cases e2
      exact .base (.lst e1)
    · next ds hs =>
      cases e
      obtain ⟨_, _, ⟨u, e1, e2⟩, _⟩ := R.sto _ _ _ hn hs
      cases e2
      exact .base (.dK e1)
    · cases e
  | v => exact ty_of (μ := μ) R.ex (.v _) e
  | tup a b => exact ty_of R.ex (.tup a b) e
  | lst a b => exact ty_of R.ex (.lst a b) e
  | scr a b => exact ty_of R.ex (.scr a b) e
  | dct a b d => exact ty_of R.ex (.dct a b d) e
  | exn0 => cases e
  | exn1 _ _ => cases e
  | ins a b d => exact ty_of R.ex (.ins a b d) e
omit [TabEnv] in
def gIsiS (cl : String) : D → M D := fun x c => match (tagS c x).bind fun t => isiT t cl with
  | some b => .ok (.v (.bl b)) c
  | none => .no
theorem dd_isiS {X : Cx} {W : WX} {a : Expr} {ta : TE} {pos : Pos} {K : PySem.W.Frag} {x : Str} {cl : String} {p q : Pos} {dx : M D} (hg : Gl X "isinstance") (hm : X.mg "isinstance" = none) (hv : bootBuiltins "isinstance" = some (.builtin "isinstance")) (ha : DD X W a ta dx) (hg2 : Gl X x) (hm2 : X.mg x = none) (hv2 : bootBuiltins x = some (.type cl))
    (hs : starEach [a, .Name x q] X.env = (false, eval a X.env) :: starEach [.Name x q] X.env := by rfl) (hs2 : starEach [.Name x q] X.env = (false, eval (.Name x q) X.env) :: starEach [] X.env := by rfl) (hn : x ≠ "__name__" := by decide) (hdb : (x == ("__debug__" : Str)) = false := by decide)
    (he : starEach [a, .Name x q] X.env = (false, eval a X.env) :: starEach [.Name x q] X.env := by rfl) (hpl : (backTo pos (starEach [.Name x q] X.env)).any (·.1) = false := by rfl) (hK : X.K = K := by rfl) :
    DD X W (.Call (.Name "isinstance" p) [a, .Name x q] [] pos) (tCB (rIsi K) (tCons ta (tCons (tC (.ty cl)) tNil))) (M.bind dx (gIsiS cl)) := by
  subst hK
  exact ⟨(dd_isi hg hm hv ha hg2 hm2 hv2 hs hs2 hn hdb he hpl).pe, fun Z F μ c σ H Q R p => ha.ev Z F μ c σ H _ R (p.bind.imp fun x c1 F1 μ1 H1 l1 R1 p1 v1 r1 => by
    unfold gIsiS at p1
    split at p1
    · next b hb =>
      cases ht : tagS c1 x with
      | none => rw [ht] at hb; cases hb
      | some t =>
        rw [ht] at hb
        exact ⟨v1, .ty cl, .type t, .type cl, b, rfl, .ty cl, ty_ofS R1 r1 ht, isi_kit hb, p1 F1 μ1 H1 (Le.refl _ _) R1 _ (.v _)⟩
    · exact p1.elim)⟩
/-! ### o.pop(i) -/
section
variable {X : Cx} {W : WX} {e o : Expr} {te to : TE} {pos apos : Pos} {dob : M O} {de : M D}
omit [TabEnv] in
def dPopAt (dob : M O) (de : M D) : M D := M.bind dob fun o c => match mutD c o with
  | some _ => M.bind de (fun x c => match x, mutD c o with
      | .v (.int i), some ds => if -(2 ^ 63) ≤ i ∧ i.toNat < 2 ^ 63 then match seqIndex? i ds.length with
          | some k => match ds[k]? with
            | some y => .ok y (putL o (ds.eraseIdx k) c)
            | none => .no
          | none => .no
        else .no
      | _, _ => .no) c
  | none => .no
theorem dd_popAt {K : PySem.W.Frag} (ho : ED X W o to dob) (he : DD X W e te de) (hbase : attributeBase o "pop" X.env (eval o X.env) = eval o X.env := by rfl)
    (hfew : ((backTo pos (starEach [e] X.env)).all (fun x => !x.1) && (backToKw pos (keywordEach [] X.env)).all (fun x => x.1.isSome)
      && decide (([e] : List Expr).length + ([] : List Keyword).length + (if ([] : List Keyword).isEmpty then 0 else 1) < 30)) = true := by rfl)
    (hline : (apos.endLine == pos.line) = true := by rfl) (hs : starEach [e] X.env = (false, eval e X.env) :: starEach [] X.env := by rfl) (hplain : (backTo pos (starEach [] X.env)).any (·.1) = false := by rfl)
    (hs2 : starEach [e] X.env = (false, eval e X.env) :: starEach [] X.env := by rfl) (hK : X.K = K := by rfl) :
    DD X W (.Call (.Attribute o "pop" apos) [e] [] pos) (tBM K "list" rPopAt to (tCons te tNil)) (dPopAt dob de) := by
  subst hK
  exact ⟨pe_bm PySem.F.plainAttrs_list PySem.F.slot_list_pop PySem.F.type_list_pop mt_popAt ho.pe (pa_cons he.pe pa_nil hs2) hbase hfew hline hs hplain, fun Z F μ c σ H Q R p => ho.ev Z F μ c σ H _ R (p.bind.imp fun oo c1 F1 μ1 H1 l1 R1 p1 v1 r1 => by
    split at p1
    · next ds0 hs0 =>
      obtain ⟨a0, vs0, rfl, h0, _, _⟩ := mut_at R1 r1 hs0
      refine ⟨.inl ⟨rfl, _, .of h0⟩, he.ev Z F1 μ1 c1 σ H1 _ R1 (p1.bind.imp fun x c2 F2 μ2 H2 l2 R2 p2 v2 r2 => ?_)⟩
      split at p2
      · next i ds hs =>
        split at p2
        · next hz =>
          split at p2
          · next k hk =>
            split at p2
            · next y hy =>
              obtain ⟨a2, vs2, e2, h3, rs, kk⟩ := mut_at R2 (r1.mono l2) hs
              cases e2
              cases r2
              obtain ⟨u, hu, ru⟩ := rs.get hy
              exact ⟨_, vs2, i, k, u, rfl, rfl, h3, hz.1, by omega, by rw [rs.length]; exact hk, hu, p2 F2 μ2 _ (Le.refl _ _) (kk _ _ (Reps.eraseIdx k rs)) _ ru⟩
            · exact p2.elim
          · exact p2.elim
        · exact p2.elim
      · exact p2.elim
    · exact p1.elim)⟩
end
end My

set_option Elab.async false
set_option linter.all false
set_option maxRecDepth 100000
set_option maxHeartbeats 4000000
/-! F19: reckoning: guarded walks, rows of numbers in the store. -/
namespace My
open PySem L2
variable [TabEnv]
omit [TabEnv] in
theorem itLG_map {n : Nat} {es : List D} {dg : D → M Unit} {dt : M Bool} {de : M D} {vs : List Nat} {r0 : List Slot} {w : List Slot} {S : List Cell} {p : D → Bool} {f : D → D} (hS : S[n]? = some (.lst es)) : ∀ (ds acc : List D) (c : Stt), wipeD c.r vs = w → c.S = S → acc.length + ds.length ≤ 1000000 →
    (∀ d ∈ ds, ∃ c1, dg d ⟨w, S⟩ = .ok () c1 ∧ ∃ c2, dt c1 = .ok (p d) c2 ∧ wipeD c2.r vs = w ∧ c2.S = S ∧ (p d = true → ∃ c3, de c2 = .ok (f d) c3 ∧ wipeD c3.r vs = w ∧ c3.S = S)) →
    itLG n es dg dt de vs r0 ds acc c = .ok (acc ++ (ds.filter p).map f) ⟨w, S⟩
  | [], acc, c, hw, hc, _, _ => by
    unfold itLG
    rw [hc, if_pos hS, hw]
    simp
  | d :: r, acc, c, hw, hc, hz, t => by
    obtain ⟨c1, e1, c2, e2, w2, s2, k⟩ := t d List.mem_cons_self
    unfold itLG
    rw [hc, if_pos hS]
    unfold M.bind M.ne
    rw [hw, e1]
    dsimp only
    rw [e2]
    dsimp only
    have hz' : acc.length < 1000000 := by simp at hz; omega
    cases q : p d with
    | false =>
      rw [if_neg Bool.false_ne_true]
      rw [itLG_map hS r acc c2 w2 s2 (by simp at hz ⊢; omega) fun d' h => t d' (List.mem_cons_of_mem _ h)]
      rw [List.filter_cons, q]
      rfl
    | true =>
      obtain ⟨c3, e3, w3, s3⟩ := k q
      rw [if_pos rfl, e3]
      dsimp only
      rw [if_pos hz']
      rw [itLG_map hS r (acc ++ [f d]) c3 w3 s3 (by simp at hz ⊢; omega) fun d' h => t d' (List.mem_cons_of_mem _ h)]
      rw [List.filter_cons, q]
      simp
omit [TabEnv] in
theorem firstEq_int {k : Int} : ∀ {ms : List Int}, k ∈ ms → ∃ j, firstEq (.int k) (ms.map PyData.int) = some j ∧ ms.eraseIdx j = ms.erase k
  | [], h => by simp at h
  | m :: ms, h => by
    have ev : PyData.eqv (.int m) (.int k) = decide (m = k) := PySem.W.Datum.eqv m k
    rw [List.map_cons]
    unfold firstEq
    rw [ev]
    by_cases e : m = k
    · subst e
      refine ⟨0, by rw [if_pos (by simp)], ?_⟩
      rw [List.erase_cons_head]
      rfl
    · have ht : k ∈ ms := by
        rcases List.mem_cons.mp h with q | q
        · exact absurd q.symm e
        · exact q
      obtain ⟨j, h1, h2⟩ := firstEq_int ht
      refine ⟨j + 1, ?_, ?_⟩
      · rw [if_neg (by simpa using e), h1]
        rfl
      · rw [List.erase_cons_tail (by simpa using e), ← h2]
        rfl
omit [TabEnv] in
theorem eraseIdx_mapI {α β : Type} (f : α → β) : ∀ (l : List α) (j : Nat), (l.map f).eraseIdx j = (l.eraseIdx j).map f
  | [], j => by rw [List.map_nil, List.eraseIdx_nil, List.eraseIdx_nil, List.map_nil]
  | a :: l, 0 => rfl
  | a :: l, j + 1 => congrArg (f a :: ·) (eraseIdx_mapI f l j)
omit [TabEnv] in
theorem rem_int {k : Int} {ms : List Int} (h : k ∈ ms) : ∃ j, firstEq (.int k) (ms.map PyData.int) = some j ∧ (ms.map I).eraseIdx j = (ms.erase k).map I := by
  obtain ⟨j, h1, h2⟩ := firstEq_int h
  exact ⟨j, h1, by rw [eraseIdx_mapI, h2]⟩
omit [TabEnv] in
theorem pyO_int {c : Stt} {k : Int} : pyO c (.d (.v (.int k))) = some (.int k) := rfl
omit [TabEnv] in
theorem app_int (ms : List Int) (k : Int) : ms.map I ++ [D.v (V.int k)] = (ms ++ [k]).map I := by
  rw [List.map_append]
  rfl
omit [TabEnv] in
theorem tl_get (T : List Cell) (x : Cell) : (T ++ [x])[T.length]? = some x := by simp
omit [TabEnv] in
theorem tl_set (T : List Cell) (x y : Cell) : (T ++ [x]).set T.length y = T ++ [y] := by
  rw [List.set_append_right _ _ (Nat.le_refl _), Nat.sub_self]
  rfl
omit [TabEnv] in
theorem tl_get2 (T : List Cell) (x y : Cell) : (T ++ [x, y])[T.length]? = some x := by simp
omit [TabEnv] in
theorem tl_set2 (T : List Cell) (x y z : Cell) : (T ++ [x, y]).set T.length z = T ++ [z, y] := by
  rw [List.set_append_right _ _ (Nat.le_refl _), Nat.sub_self]
  rfl
omit [TabEnv] in
theorem st_get {T : List Cell} {q : Nat} {y : Cell} (h : T[q]? = some y) (x : Cell) : (T.set q x)[q]? = some x := by
  rw [List.getElem?_set, if_pos rfl, if_pos (List.getElem?_eq_some_iff.mp h).1]
omit [TabEnv] in
theorem gEq_locl {neg : Bool} {m : Nat} {b : O} {c : Stt} {ds : List D} (h : c.S[m]? = some (.lst ds)) : gEq neg (.d (.loc m)) b c = gEq neg (.d (.lst ds)) b c := by
  have e : pyO c (.d (.loc m)) = pyO c (.d (.lst ds)) := by
    show (match c.S[m]? with | some (.lst ds) => (pyDs ds).map PyData.list | _ => none) = pyD (.lst ds)
    rw [h]
    unfold pyD
    rfl
  unfold gEq
  rw [e]
omit [TabEnv] in
theorem gEq_locr {neg : Bool} {m : Nat} {a : O} {c : Stt} {ds : List D} (h : c.S[m]? = some (.lst ds)) : gEq neg a (.d (.loc m)) c = gEq neg a (.d (.lst ds)) c := by
  have e : pyO c (.d (.loc m)) = pyO c (.d (.lst ds)) := by
    show (match c.S[m]? with | some (.lst ds) => (pyDs ds).map PyData.list | _ => none) = pyD (.lst ds)
    rw [h]
    unfold pyD
    rfl
  unfold gEq
  rw [e]
omit [TabEnv] in
theorem gEq_selfD {neg : Bool} {x : D} {p : PyData} {c : Stt} (h : pyO c (.d x) = some p) (hz : p.depth ≤ 64) : gEq neg (.d x) (.d x) c = .ok (.v (.bl (!neg))) c := by
  rw [gEq_of h h hz (PySem.SeqAt.eqv_refl_plain p (pyO_plain h))]
  cases neg <;> rfl
omit [TabEnv] in
theorem gAll_true (Y : List D) (c : Stt) : gAll (.d (.lst (Y.map fun _ => .v (.bl true)))) c = .ok (.v (.bl true)) c := by
  have h : ∀ Y : List D, blsD (Y.map fun _ => D.v (V.bl true)) = some (Y.map fun _ => true) := fun Y => by
    induction Y with
    | nil => rfl
    | cons y Y ih =>
      show (blsD (Y.map fun _ => D.v (V.bl true))).map (true :: ·) = _
      rw [ih]
      rfl
  show (match (some (Y.map fun _ => D.v (V.bl true))).bind blsD with | some bs => R.ok (D.v (V.bl (bs.all id))) c | none => .no) = _
  rw [Option.bind_some, h]
  have : (Y.map fun _ => true).all id = true := by
    rw [List.all_map]
    simp
  dsimp only
  rw [this]
end My
namespace My
open PySem L2
variable [TabEnv]
/-! ### texts of single signs -/
omit [TabEnv] in
def ch (k : Nat) : Str := ⟨#[k]⟩
omit [TabEnv] in
theorem strsD_map : ∀ ys : List Str, strsD (ys.map fun y => D.v (V.str y)) = some ys
  | [] => rfl
  | y :: ys => by
    show (strsD (ys.map fun y => D.v (V.str y))).map (y :: ·) = _
    rw [strsD_map ys]
    rfl
omit [TabEnv] in
theorem join_ch (l : List Nat) : (Txt.join ("" : Str) (l.map ch)).cps.toList = l := by
  have h0 : (("" : Str)).cps.toList = [] := rfl
  have key : ∀ l : List Nat, (Str.join ("" : Str) (l.map ch)).cps.toList = l := fun l => by
    induction l with
    | nil => rfl
    | cons a r ih =>
      cases r with
      | nil => rfl
      | cons b r =>
        have e : Str.join ("" : Str) ((a :: b :: r).map ch) = ch a ++ ("" : Str) ++ Str.join ("" : Str) ((b :: r).map ch) := rfl
        rw [e]
        show (((ch a).cps ++ (("" : Str)).cps) ++ (Str.join ("" : Str) ((b :: r).map ch)).cps).toList = _
        rw [Array.toList_append, Array.toList_append, ih, h0]
        rfl
  have e : Txt.join ("" : Str) (l.map ch) = Str.join ("" : Str) (l.map ch) := TL.join_eq _ _
  rw [e]
  exact key l
omit [TabEnv] in
theorem ch_len (l : List Nat) : ((l.map ch).map (·.length)).sum = l.length := by
  induction l with
  | nil => rfl
  | cons a r ih =>
    rw [List.map_cons, List.map_cons, List.sum_cons, ih, List.length_cons]
    show 1 + r.length = _
    omega
omit [TabEnv] in
theorem qzjv : (("qzjv" : Str)).cps.toList = [113, 122, 106, 118] := rfl
omit [TabEnv] in
theorem abc26 : (("abcdefghijklmnopqrstuvwxyz" : Str)).cps.toList = (List.range 26).map (fun k => 97 + k) := rfl
end My

set_option Elab.async false
set_option linter.all false
set_option maxRecDepth 100000
set_option maxHeartbeats 4000000
/-! F20: dicts that are walked; dict(pairs); d[k] op= e, xs[i] op= e. -/
namespace My
open PySem L2
variable [TabEnv]
/-! ### a dict while a loop walks it -/
omit [TabEnv] in
def dropF (F : Hp) (a : Addr) : Hp := fun b => if b = a then none else F b
omit [TabEnv] in
theorem dropF_ne {F : Hp} {a b : Addr} (h : b ≠ a) : dropF F a b = F b := if_neg h
section
variable {K : PySem.W.Frag} {Z F F' : Hp} {μ μ' : List Addr} {a : Addr} {ob : Obj} {kvs : List (Key × V)}
omit [TabEnv] in
theorem seqT_drop {b : Addr} {vs : List V} (hF : F a = some (.frz ob (.dK kvs))) (h : SqT K F b vs) : SqT K (dropF F a) b vs := by
  rcases h with (h | ⟨o, h⟩) | h
  · exact .inl (.inl (by rw [dropF_ne (fun e => by rw [e, hF] at h; cases h)]; exact h))
  · exact .inl (.inr ⟨o, by rw [dropF_ne (fun e => by rw [e, hF] at h; cases h)]; exact h⟩)
  · exact .inr h
omit [TabEnv] in
theorem seqL_drop {b : Addr} {vs : List V} (hF : F a = some (.frz ob (.dK kvs))) (h : SqL K F b vs) : SqL K (dropF F a) b vs := by
  rcases h with (h | ⟨o, h⟩) | h
  · exact .inl (.inl (by rw [dropF_ne (fun e => by rw [e, hF] at h; cases h)]; exact h))
  · exact .inl (.inr ⟨o, by rw [dropF_ne (fun e => by rw [e, hF] at h; cases h)]; exact h⟩)
  · exact .inr h
omit [TabEnv] in
mutual
theorem Rep.drop (hF : F a = some (.frz ob (.dK kvs))) : ∀ {v : V} {d : D}, Rep K F μ v d → Rep K (dropF F a) μ v d
  | _, _, .v x => .v x
  | _, _, .tup h r => .tup (seqT_drop hF h) (Reps.dropA hF r)
  | _, _, .lst h r => .lst (by rw [dropF_ne (fun e => by rw [e, hF] at h; cases h)]; exact h) (Reps.dropA hF r)
  | _, _, .scr h r => .scr (seqL_drop hF h) (Reps.dropA hF r)
  | _, _, .dct h k r => .dct (by rw [dropF_ne (fun e => by rw [e, hF] at h; cases h)]; exact h) k (Reps.dropA hF r)
  | _, _, .ins h k r => .ins (by rw [dropF_ne (fun e => by rw [e, hF] at h; cases h)]; exact h) k (Reps.dropA hF r)
  | _, _, .loc h => .loc h
  | _, _, .exn0 => .exn0
  | _, _, .exn1 h r => .exn1 (by rw [dropF_ne (fun e => by rw [e, hF] at h; cases h)]; exact h) (Rep.drop hF r)
theorem Reps.dropA (hF : F a = some (.frz ob (.dK kvs))) : ∀ {vs : List V} {ds : List D}, Reps K F μ vs ds → Reps K (dropF F a) μ vs ds
  | _, _, .nil => .nil
  | _, _, .cons h r => .cons (Rep.drop hF h) (Reps.dropA hF r)
end
omit [TabEnv] in
theorem CellO.drop (hF : F a = some (.frz ob (.dK kvs))) {o : HO} {m : Cell} (h : CellO K F μ o m) : CellO K (dropF F a) μ o m := by
  cases h with
  | lst r => exact .lst (r.dropA hF)
  | dct k r => exact .dct k (r.dropA hF)
  | ins k r => exact .ins k (r.dropA hF)
  | lck k r => exact .lck k (r.dropA hF)
  | gone => exact .gone
theorem Rel.lock {c : Stt} {σ : St} {H : Hp} {n : Nat} {ds : List (Key × D)} (R : Rel K Z F μ c σ H) (hn : c.S[n]? = some (.dct ds)) (ha : μ[n]? = some a) (hH : H a = some (.dK kvs)) (hk : kvs.map (·.1) = ds.map (·.1)) (rs : Reps K F μ (kvs.map (·.2)) (ds.map (·.2))) (ob : Obj) :
    Le F μ (upd F a (.frz ob (.dK kvs))) μ ∧ Rel K Z (upd F a (.frz ob (.dK kvs))) μ ⟨c.r, c.S.set n (.lck ds)⟩ σ (upd H a (.frz ob (.dK kvs))) := by
  have cp := R.sto n a _ ha hn
  have fa : F a = none := cp.f trivial
  have le : Le F μ (upd F a (.frz ob (.dK kvs))) μ := ⟨same_new fa, fun _ _ h => h⟩
  have hl : n < c.S.length := (List.getElem?_eq_some_iff.mp hn).1
  have grow : ∀ {b : Addr} {m : Cell}, b ≠ a → CellAt K Z F μ H b m → CellAt K Z (upd F a (.frz ob (.dK kvs))) μ (upd H a (.frz ob (.dK kvs))) b m := fun {b m} hb c1 =>
    ⟨c1.z, fun g => by rw [upd_ne hb]; exact c1.f g, let ⟨u, e2, e3⟩ := c1.o; ⟨u, by rw [upd_ne hb]; exact e2, e3.mono le⟩, fun g => by rw [upd_ne hb, upd_ne hb]; exact c1.l g⟩
  refine ⟨le, { ex := fun b x e => ?_, exz := fun b x e => ?_, fz := fun b x e => ?_, len := R.len, slot := fun i x e => (let ⟨v, e1, e2⟩ := R.slot i x e; ⟨v, e1, e2.mono le⟩), own := fun i m q => ?_, dis := R.dis, lm := by simpa using R.lm, sto := fun k b m e1 e2 => ?_, dst := R.dst, ndm := R.ndm, tab := tabs_put R.tab hH noTab_dK }⟩
  · by_cases hb : b = a
    · subst hb; rw [upd_same] at e ⊢; exact e
    · rw [upd_ne hb] at e ⊢; exact R.ex b x e
  · have : b ≠ a := fun z => by subst z; rw [cp.z] at e; cases e
    rw [upd_ne this]; exact R.exz b x e
  · have : b ≠ a := fun z => by subst z; rw [cp.z] at e; cases e
    rw [upd_ne this]; exact R.fz b x e
  · obtain ⟨b, e1, c1, g1⟩ := R.own i m q
    have : b ≠ a := fun z => by subst z; exact R.dst i n b m q e1 ha
    exact ⟨b, e1, grow this c1, g1⟩
  · by_cases hkn : k = n
    · subst hkn
      rw [ha] at e1
      cases e1
      have e2 : (c.S.set k (.lck ds))[k]? = some m := e2
      rw [List.getElem?_set_self hl] at e2
      cases e2
      exact ⟨cp.z, fun g => g.elim, ⟨_, upd_same, .lck hk (rs.mono le)⟩, fun _ => by rw [upd_same, upd_same]⟩
    · have e2 : (c.S.set n (.lck ds))[k]? = some m := e2
      rw [List.getElem?_set_ne (Ne.symm hkn)] at e2
      have : b ≠ a := fun z => by subst z; exact hkn (R.ndm k n b e1 ha)
      exact grow this (R.sto k b m e1 e2)
theorem Rel.unlock {c : Stt} {σ : St} {H : Hp} {n : Nat} {ds : List (Key × D)} {F0 : Hp} {μ0 : List Addr} (R : Rel K Z F μ c σ H) (hn : c.S[n]? = some (.lck ds)) (ha : μ[n]? = some a) (hF : F a = some (.frz ob (.dK kvs))) (f0 : F0 a = none) (le : Le F0 μ0 F μ) :
    H a = some (.frz ob (.dK kvs)) ∧ Le F0 μ0 (dropF F a) μ ∧ Rel K Z (dropF F a) μ ⟨c.r, c.S.set n (.dct ds)⟩ σ (upd H a (.dK kvs)) := by
  have cp := R.sto n a _ ha hn
  have hl : n < c.S.length := (List.getElem?_eq_some_iff.mp hn).1
  have hH := R.ex _ _ hF
  have dn : dropF F a a = none := if_pos rfl
  have grow : ∀ {b : Addr} {m : Cell}, b ≠ a → CellAt K Z F μ H b m → CellAt K Z (dropF F a) μ (upd H a (.dK kvs)) b m := fun {b m} hb c1 =>
    ⟨c1.z, fun g => by rw [dropF_ne hb]; exact c1.f g, let ⟨u, e2, e3⟩ := c1.o; ⟨u, by rw [upd_ne hb]; exact e2, e3.drop hF⟩, fun g => by rw [dropF_ne hb, upd_ne hb]; exact c1.l g⟩
  refine ⟨hH, ⟨fun b x e => ?_, le.mu⟩, { ex := fun b x e => ?_, exz := fun b x e => ?_, fz := fun b x e => ?_, len := R.len, slot := fun i x e => (let ⟨v, e1, e2⟩ := R.slot i x e; ⟨v, e1, e2.drop hF⟩), own := fun i m q => ?_, dis := R.dis, lm := by simpa using R.lm, sto := fun k b m e1 e2 => ?_, dst := R.dst, ndm := R.ndm, tab := tabs_put R.tab hH noTab_frz }⟩
  · rw [dropF_ne (fun z => by rw [z, f0] at e; cases e)]
    exact le.ex b x e
  · by_cases hb : b = a
    · subst hb; rw [dn] at e; cases e
    · rw [dropF_ne hb] at e
      rw [upd_ne hb]; exact R.ex b x e
  · have : b ≠ a := fun z => by subst z; rw [cp.z] at e; cases e
    rw [upd_ne this]; exact R.exz b x e
  · by_cases hb : b = a
    · subst hb; exact dn
    · rw [dropF_ne hb]; exact R.fz b x e
  · obtain ⟨b, e1, c1, g1⟩ := R.own i m q
    have : b ≠ a := fun z => by subst z; exact R.dst i n b m q e1 ha
    exact ⟨b, e1, grow this c1, g1⟩
  · by_cases hkn : k = n
    · subst hkn
      rw [ha] at e1
      cases e1
      have e2 : (c.S.set k (.dct ds))[k]? = some m := e2
      rw [List.getElem?_set_self hl] at e2
      cases e2
      obtain ⟨o, eo, co⟩ := cp.o
      rw [hH] at eo
      cases eo
      cases co with
      | lck hk rs => exact ⟨cp.z, fun _ => dn, ⟨_, upd_same, .dct hk (rs.dropA hF)⟩, fun g => g.elim⟩
    · have e2 : (c.S.set n (.dct ds))[k]? = some m := e2
      rw [List.getElem?_set_ne (Ne.symm hkn)] at e2
      have : b ≠ a := fun z => by subst z; exact hkn (R.ndm k n b e1 ha)
      exact grow this (R.sto k b m e1 e2)
end
section
variable {X : Cx} {W : WX} {e o a b i : Expr} {t to te ti ta tb : TE} {pos apos : Pos} {dob da db : M O} {dd dv di : M D}
omit [TabEnv] in
/-- the dict dl tells is locked -/
def lckS (dl : M D) (m : M Fl) : M Fl := fun c => match dl c with
  | .ok (.loc n) _ => match c.S[n]? with
    | some (.dct ds) => match m ⟨c.r, c.S.set n (.lck ds)⟩ with
      | .ok f c' => match c'.S[n]? with
        | some (.lck es) => .ok f ⟨c'.r, c'.S.set n (.dct es)⟩
        | _ => .no
      | _ => .no
    | _ => .no
  | _ => .no
theorem dct_cell {K : PySem.W.Frag} {Z F : Hp} {μ : List Addr} {c : Stt} {σ : St} {H : Hp} {n : Nat} {ds : List (Key × D)} (R : Rel K Z F μ c σ H) (hn : c.S[n]? = some (.dct ds)) :
    ∃ a kvs, μ[n]? = some a ∧ H a = some (.dK kvs) ∧ kvs.map (·.1) = ds.map (·.1) ∧ Reps K F μ (kvs.map (·.2)) (ds.map (·.2)) ∧ F a = none := by
  have hl : n < μ.length := by rw [R.lm]; exact (List.getElem?_eq_some_iff.mp hn).1
  have ha := List.getElem?_eq_getElem hl
  have cp := R.sto n _ _ ha hn
  obtain ⟨u, e1, e2⟩ := cp.o
  cases e2 with
  | dct hk rs => exact ⟨_, _, ha, e1, hk, rs, cp.f trivial⟩
theorem sd_lock {st : Stmt} {ts : TS} {dl : M D} {m : M Fl} (h : SD X W st ts m) : SD X W st (tLock ts) (lckS dl m) := ⟨ps_lock h.ps, fun Z F μ c σ H D R p => by
  unfold lckS at p
  split at p
  · next n c0 _ =>
    split at p
    · next ds hn =>
      obtain ⟨a, kvs, ha, hH, hk, rs, fa⟩ := dct_cell R hn
      refine ⟨a, .dK kvs, hH, trivial, fun ob => ?_⟩
      obtain ⟨l1, R1⟩ := R.lock hn ha hH hk rs ob
      refine h.ev Z _ μ _ σ _ _ R1 ?_
      cases q : m ⟨c.r, c.S.set n (.lck ds)⟩ with
      | no => rw [q] at p; exact p.elim
      | ex _ _ => rw [q] at p; exact p.elim
      | ok f c' =>
        rw [q] at p
        dsimp only at p
        split at p
        · next es hes =>
          have key : ∀ {σ' : St} {F' : Hp} {μ' : List Addr} {H' : Hp}, Le (upd F a (.frz ob (.dK kvs))) μ F' μ' → Rel X.K Z F' μ' c' σ' H' → F' a = some (.frz ob (.dK kvs)) ∧ H' a = some (.frz ob (.dK kvs)) ∧ Le F μ (dropF F' a) μ' ∧ Rel X.K Z (dropF F' a) μ' ⟨c'.r, c'.S.set n (.dct es)⟩ σ' (upd H' a (.dK kvs)) := fun l R' =>
            have hF := l.ex _ _ upd_same
            ⟨hF, R'.unlock hes (l.mu _ _ ha) hF fa (l1.trans l)⟩
          cases f with
          | nx => exact fun σ' F' μ' H' l R' => (let ⟨_, h1, h2, h3⟩ := key l R'; ⟨h1, p σ' _ μ' _ h2 h3⟩)
          | bk => exact fun σ' F' μ' H' l R' => (let ⟨_, h1, h2, h3⟩ := key l R'; ⟨h1, p σ' _ μ' _ h2 h3⟩)
          | ct => exact fun σ' F' μ' H' l R' => (let ⟨_, h1, h2, h3⟩ := key l R'; ⟨h1, p σ' _ μ' _ h2 h3⟩)
          | rt d => exact fun v σ' F' μ' H' l R' rv => (let ⟨h0, h1, h2, h3⟩ := key l R'; ⟨h1, p v σ' _ μ' _ h2 h3 (rv.drop h0)⟩)
        · exact p.elim
    · exact p.elim
  · exact p.elim⟩
omit [TabEnv] in
def lckN (dl : M D) (m : M (List D)) : M (List D) := fun c => match dl c with
  | .ok (.loc n) _ => match c.S[n]? with
    | some (.dct ds) => match m ⟨c.r, c.S.set n (.lck ds)⟩ with
      | .ok f c' => match c'.S[n]? with
        | some (.lck es) => .ok f ⟨c'.r, c'.S.set n (.dct es)⟩
        | _ => .no
      | _ => .no
    | _ => .no
  | _ => .no
theorem en_lock {dl : M D} {m : M (List D)} (h : EN X W e t m) : EN X W e (tLockE t) (lckN dl m) := ⟨pe_lock h.pe, fun Z F μ c σ H Q R p => by
  unfold lckN at p
  split at p
  · next n c0 _ =>
    split at p
    · next ds hn =>
      obtain ⟨a, kvs, ha, hH, hk, rs, fa⟩ := dct_cell R hn
      refine ⟨a, .dK kvs, hH, trivial, fun ob => ?_⟩
      obtain ⟨l1, R1⟩ := R.lock hn ha hH hk rs ob
      refine h.ev Z _ μ _ σ _ _ R1 ?_
      cases q : m ⟨c.r, c.S.set n (.lck ds)⟩ with
      | no => rw [q] at p; exact p.elim
      | ex _ _ => rw [q] at p; exact p.elim
      | ok f c' =>
        rw [q] at p
        dsimp only at p
        split at p
        · next es hes =>
          refine fun F' μ' H' l R' q vs hq nb rs' => ?_
          have hF := l.ex _ _ upd_same
          obtain ⟨h1, h2, h3⟩ := R'.unlock hes (l.mu _ _ ha) hF fa (l1.trans l)
          have hqa : q ≠ a := fun z => by subst z; rw [nb.f] at hF; cases hF
          refine ⟨h1, p _ μ' _ h2 h3 q vs (by rw [upd_ne hqa]; exact hq) ⟨by rw [dropF_ne hqa]; exact nb.f, nb.z, nb.no, nb.nm⟩ (rs'.dropA hF)⟩
        · exact p.elim
    · exact p.elim
  · exact p.elim⟩
omit [TabEnv] in
/-- the keys of a locked dict -/
def keysX (x : D) : M (List D) := fun c => match x with
  | .loc n => match c.S[n]? with
    | some (.lck ds) => .ok (ds.map fun kv => .v (kV kv.1)) c
    | _ => .no
  | _ => .no
omit [TabEnv] in
theorem wk_keys {K : PySem.W.Frag} {F : Hp} {μ : List Addr} {d : Addr} {ob : Obj} {kvs : List (Key × V)} {ds : List (Key × D)} (hF : F d = some (.frz ob (.dK kvs))) (hk : kvs.map (·.1) = ds.map (·.1)) : Wk K F μ (Itk d ob kvs) (ds.map fun kv => .v (kV kv.1)) := by
  have hl : kvs.length = ds.length := by
    have := congrArg List.length hk
    simpa using this
  refine ⟨fun i H s hi => ⟨s _ _ hF, ?_⟩, fun i H s hi => ⟨s _ _ hF, ?_⟩, fun i H x H' s hi ⟨e, k, v, h1, h2⟩ => ⟨.v x, ?_, .inl ⟨e, .v _⟩⟩⟩
  · rw [List.length_map] at hi; omega
  · rw [List.length_map] at hi; omega
  · have : (kvs.map (·.1))[i]? = some k := by rw [List.getElem?_map, h1]; rfl
    rw [hk, List.getElem?_map] at this
    rw [List.getElem?_map]
    cases q : ds[i]? with
    | none => rw [q] at this; cases this
    | some kv =>
      rw [q] at this
      cases this
      rw [h2]
      rfl
theorem id_keys {tg : Expr} (h : DD X W e t dd) : ID X W tg e (iKeys t) (M.bind dd keysX) := ⟨pi_keys h.pe, fun Z F μ c σ H P R p => h.ev Z F μ c σ H _ R (p.bind.imp fun x c1 F1 μ1 H1 l1 R1 p1 v r => by
  unfold keysX at p1
  split at p1
  · next n =>
    split at p1
    · next ds hn =>
      cases r with
      | loc ha =>
        have cp := R1.sto n _ _ ha hn
        obtain ⟨u, e1, e2⟩ := cp.o
        cases e2 with
        | lck hk rs =>
          have hF := cp.l trivial
          rw [e1] at hF
          exact ⟨_, _, rfl, .inl ⟨_, e1, p1 F1 μ1 H1 (Le.refl _ _) R1 _ (wk_keys hF hk)⟩⟩
    · exact p1.elim
  · exact p1.elim)⟩
/-! ### a dict that is read: locked or not -/
omit [TabEnv] in
def rdcD (c : Stt) : O → Option (List (Key × D))
  | .d (.loc n) => match c.S[n]? with
    | some (.dct kvs) => some kvs
    | some (.lck kvs) => some kvs
    | _ => none
  | _ => none
theorem rdc_at {K : PySem.W.Frag} {Z F : Hp} {μ : List Addr} {c : Stt} {σ : St} {H : Hp} {v : V} {x : O} {ds : List (Key × D)} (h : Rel K Z F μ c σ H) (r : RepO K F μ σ v x) (e : rdcD c x = some ds) :
    ∃ a kvs, v = .ref a ∧ Rd H a (.dK kvs) ∧ kvs.map (·.1) = ds.map (·.1) ∧ Reps K F μ (kvs.map (·.2)) (ds.map (·.2)) := by
  cases r with
  | d r =>
    cases r with
    | loc hn =>
      unfold rdcD at e
      dsimp only at e
      split at e
      · next ds' hs =>
        cases e
        obtain ⟨_, _, ⟨u, e1, e2⟩, _⟩ := h.sto _ _ _ hn hs
        cases e2 with
        | dct k r => exact ⟨_, _, rfl, .inl e1, k, r⟩
      · next ds' hs =>
        cases e
        obtain ⟨_, _, ⟨u, e1, e2⟩, _⟩ := h.sto _ _ _ hn hs
        cases e2 with
        | lck k r => exact ⟨_, _, rfl, .inr ⟨_, e1⟩, k, r⟩
      · cases e
    | _ => cases e
  | sl q => cases e
omit [TabEnv] in
/-- d[k] -/
def dRGet (dob : M O) (di : M D) : M D := M.bind dob fun x => M.bind di fun k c => match rdcD c x, keyD k with
  | some kvs, some k => match valD kvs k with
    | some y => .ok y c
    | none => .no
  | _, _ => .no
theorem dd_rget (hu : X.A.units + 1 < cLine) (ho : ED X W o to dob) (hi : DD X W i ti di) (hs : NoSl i := by intro _ _; rfl) : DD X W (.Subscript o i pos) (tDGet to ti) (dRGet dob di) :=
  ⟨pe_dget hu ho.pe hi.pe hs, fun Z F μ c σ H Q R p => ho.ev Z F μ c σ H _ R (p.bind.imp fun x c1 F1 μ1 H1 l1 R1 p1 v r => hi.ev Z F1 μ1 c1 σ H1 _ R1 (p1.bind.imp fun k c2 F2 μ2 H2 l2 R2 p2 u ru => by
    split at p2
    · next kvs kk e1 e2 =>
      split at p2
      · next y hy =>
        obtain ⟨a, gs, rfl, ha, hk, rs⟩ := rdc_at R2 (r.mono l2) e1
        obtain ⟨w, hw, rw'⟩ := val_rep hk rs hy
        have := key_at ru e2
        subst this
        have g : DGet H2 a (kV kk) (valV gs kk) := .inl ⟨gs, kk, ha, rfl, rfl⟩
        rw [hw] at g
        exact ⟨a, w, rfl, g, p2 F2 μ2 H2 (Le.refl _ _) R2 _ rw'⟩
      · exact p2.elim
    · exact p2.elim))⟩
omit [TabEnv] in
/-- k in d -/
def dIn (di : M D) (dob : M O) (f : Bool → Bool) : M D := M.bind di fun k => M.bind dob fun x c => match rdcD c x, keyD k with
  | some kvs, some k => .ok (.v (.bl (f (valD kvs k).isSome))) c
  | _, _ => .no
omit [TabEnv] in
/-- d[k] += j -/
def dDAug (f : Int → Int → Int) (dob : M O) (di dv : M D) : M Fl := M.bind dob fun x => M.bind di fun k c => match rdcD c x, keyD k with
  | some kvs, some kk => match valD kvs kk with
    | some (.v (.int i)) => M.bind dv (fun y c => match y, x with
      | .v (.int j), .d (.loc n) => match dctD c (.d (.loc n)) with
        | some kvs => if kvs.length < 1000000 then .ok .nx ⟨c.r, c.S.set n (.dct (putD kvs kk (.v (.int (f i j)))))⟩ else .no
        | none => .no
      | _, _ => .no) c
    | _ => .no
  | _, _ => .no
omit [TabEnv] in
def rdI (f : Int → Int → Int) : V → V → Hp → VK → Prop := fun x y H Q => ∃ i j, x = .int i ∧ y = .int j ∧ Q (.int (f i j)) H
theorem sd_daug {op : Operator} {f : Int → Int → Int} {tpos : Pos} (hop : InOp X op (rdI f)) (hu : X.A.units + 1 < cLine) (ho : ED X W o to dob) (hi : DD X W i ti di) (hv : DD X W e te dv)
    (ha : ∀ ov iv new, augStore i ov iv new = (do holding [new, ov, iv] (setItem ov iv new); release [new, ov, iv] []; pure .next) := by intros; rfl) : SD X W (.AugAssign (.Subscript o i tpos) op e pos) (sDAug to ti te (rdI f)) (dDAug f dob di dv) :=
  ⟨ps_daug hu ho.pe hi.pe hv.pe hop ha, fun Z F μ c σ H D R p => ho.ev Z F μ c σ H _ R (p.bind.imp fun x c1 F1 μ1 H1 l1 R1 p1 v r => hi.ev Z F1 μ1 c1 σ H1 _ R1 (p1.bind.imp fun k c2 F2 μ2 H2 l2 R2 p2 u ru => by
    split at p2
    · next kvs kk e1 e2 =>
      split at p2
      · next z hz =>
        obtain ⟨a, gs, rfl, hd, hk, rs⟩ := rdc_at R2 (r.mono l2) e1
        obtain ⟨w, hw, rw'⟩ := val_rep hk rs hz
        cases rw'
        have ek := key_at ru e2
        subst ek
        have g : DGet H2 a (kV kk) (valV gs kk) := .inl ⟨gs, kk, hd, rfl, rfl⟩
        rw [hw] at g
        refine ⟨a, _, rfl, g, hv.ev Z F2 μ2 c2 σ H2 _ R2 (p2.bind.imp fun y c3 F3 μ3 H3 l3 R3 p3 w2 r2 => ?_)⟩
        split at p3
        · next j n =>
          cases r2
          refine ⟨z, j, rfl, rfl, ?_⟩
          split at p3
          · next kv2 e3 =>
            split at p3
            · next hz2 =>
              obtain ⟨a', gs2, n', e4, e5, hn, hs, ha', hk2, rs2⟩ := dct_at R3 ((r.mono l2).mono l3) e3
              cases e4
              cases e5
              obtain ⟨k', rs'⟩ := put_rep (k := kk) (.v (.int (f z j))) hk2 rs2
              have hl : gs2.length < sizeLine := by
                have h1 : (gs2.map (·.1)).length = (kv2.map (·.1)).length := by rw [hk2]
                rw [List.length_map, List.length_map] at h1
                rw [h1]
                exact lt6 hz2
              exact ⟨_, DPut.k (k := kk) ha' hl, p3 _ F3 μ3 _ (Le.refl _ _) (R3.put hs trivial hn (.dct k' rs'))⟩
            · exact p3.elim
          · exact p3.elim
        · exact p3.elim
      · exact p2.elim
    · exact p2.elim))⟩
omit [TabEnv] in
theorem io_add : InOp X .Add (rdI fun i j => i + j) := in_add
omit [TabEnv] in
theorem io_sub : InOp X .Sub (rdI fun i j => i - j) := in_sub
/-! ### xs[i] += j -/
omit [TabEnv] in
def rGL (K : PySem.W.Frag) : V → V → Hp → VK → Prop := fun o i H Q => ∃ p xs k v, o = .ref p ∧ i = .int k ∧ 0 ≤ k ∧ SqL K H p xs ∧ xs[k.toNat]? = some v ∧ Q v H
omit [TabEnv] in
theorem get_list : PGet X (rGL X.K) := by
  rintro pins s σ H o i ov iv Q I ro ri ⟨p, xs, k, v, rfl, rfl, h0, hq, hv, q⟩
  cases ro
  obtain ⟨t, rfl⟩ := ri
  obtain ⟨its, r, pl, hz⟩ := I.list hq
  obtain ⟨w, ew, rw'⟩ := r.get hv
  have hl := r.length
  have hn := line63
  have hlt := (List.getElem?_eq_some_iff.mp hv).1
  exact wpAny_getItem_list pl.isList h0 (by omega) (by simpa using ew) ⟨v, H, I, rw', q⟩
omit [TabEnv] in
def dAugL (f : Int → Int → Int) (dob : M O) (di dv : M D) : M Fl := M.bind dob fun x => M.bind di fun k c => match k with
  | .v (.int z) => if 0 ≤ z then match rdlD c x with
    | some ds => match ds[z.toNat]? with
      | some (.v (.int i)) => M.bind dv (fun y c => match y with
        | .v (.int j) => match mutD c x with
          | some es => if z.toNat < es.length then .ok .nx (putL x (es.set z.toNat (.v (.int (f i j)))) c) else .no
          | none => .no
        | _ => .no) c
      | _ => .no
    | none => .no else .no
  | _ => .no
theorem sd_augL {K : PySem.W.Frag} {op : Operator} {f : Int → Int → Int} {tpos : Pos} (hop : PIp X op (ipI f)) (ho : ED X W o to dob) (hi : DD X W i ti di) (hv : DD X W e te dv)
    (ha : ∀ ov iv new, augStore i ov iv new = (do holding [new, ov, iv] (setItem ov iv new); release [new, ov, iv] []; pure .next) := by intros; rfl) (hK : X.K = K := by rfl) : SD X W (.AugAssign (.Subscript o i tpos) op e pos) (tAugS to ti te (rGL K) (ipI f) rSetL) (dAugL f dob di dv) := by
  subst hK
  exact ⟨ps_augS ho.pe hi.pe get_list hv.pe hop set_list ha, fun Z F μ c σ H D R p => ho.ev Z F μ c σ H _ R (p.bind.imp fun x c1 F1 μ1 H1 l1 R1 p1 v r => hi.ev Z F1 μ1 c1 σ H1 _ R1 (p1.bind.imp fun k c2 F2 μ2 H2 l2 R2 p2 u ru => by
    split at p2
    · next z =>
      cases ru
      split at p2
      · next h0 =>
        split at p2
        · next ds hds =>
          split at p2
          · next i hi =>
            obtain ⟨l, vs, rfl, h1, q1⟩ := rdl_at R2 (r.mono l2) hds
            obtain ⟨w, hw, rw'⟩ := q1.get hi
            cases rw'
            refine ⟨l, vs, z, _, rfl, rfl, h0, h1, hw, hv.ev Z F2 μ2 c2 σ H2 _ R2 (p2.bind.imp fun y c3 F3 μ3 H3 l3 R3 p3 w2 r2 => ?_)⟩
            split at p3
            · next j =>
              cases r2
              refine ⟨i, j, rfl, rfl, ?_⟩
              split at p3
              · next es hes =>
                split at p3
                · next hlt =>
                  obtain ⟨l', vs', e5, h2, rs, kk⟩ := mut_at R3 ((r.mono l2).mono l3) hes
                  cases e5
                  refine ⟨l, vs', z, z.toNat, rfl, rfl, h2, ?_, p3 _ F3 μ3 _ (Le.refl _ _) (kk _ _ (Reps.set (.v (.int (f i j))) z.toNat rs))⟩
                  unfold ixN
                  rw [if_pos h0, if_pos (by rw [rs.length]; omega)]
                · exact p3.elim
              · exact p3.elim
            · exact p3.elim
          · exact p2.elim
        · exact p2.elim
      · exact p2.elim
    · exact p2.elim))⟩
/-! ### t + u of tuples -/
omit [TabEnv] in
def gCat2 : O → O → M D := fun a b c => match tupD a, tupD b with
  | some (d :: ds), some (e :: es) => if (d :: ds).length + (e :: es).length ≤ 1000000 then .ok (.tup ((d :: ds) ++ (e :: es))) c else .no
  | _, _ => .no
theorem r2_cat2 {K : PySem.W.Frag} : R2S K W (rCatT K) gCat2 := fun Z F μ c σ H Q x y a b R rx ry p => by
  unfold gCat2 at p
  split at p
  · next d ds e es e1 e2 =>
    obtain ⟨l, vs, rfl, h1, q1⟩ := tup_at R rx e1
    obtain ⟨m, ws, rfl, h2, q2⟩ := tup_at R ry e2
    split at p
    · next hz =>
      cases q1 with
      | cons a1 a2 =>
        cases q2 with
        | cons b1 b2 =>
          have r1 := Reps.cons a1 a2
          have r2 := Reps.cons b1 b2
          refine ⟨l, m, _, _, rfl, rfl, h1, h2, (by intro z; cases z), small6 (by rw [r1.length, r2.length]; exact hz), (fun z => by cases z), fun _ t ht => ?_⟩
          obtain ⟨R2, l2⟩ := R.new (o := .tup _) ht
          exact p _ _ _ l2 R2 _ (.tup (.of upd_same) ((r1.append r2).mono l2))
    · exact p.elim
  · exact p.elim
theorem dd_cat2 {K : PySem.W.Frag} {da db : M O} (ha : ED X W a ta da) (hb : ED X W b tb db) (hK : X.K = K := by rfl) : DD X W (.BinOp a .Add b pos) (tOp (rCatT K) ta tb) (dOp gCat2 da db) := by
  subst hK
  exact dd_op op_catT r2_cat2 ha hb
/-! ### dict(pairs) -/
omit [TabEnv] in
def pairsD : List D → Option (List (Key × D))
  | [] => some []
  | .tup [k, v] :: ds => match keyD k, pairsD ds with
    | some k, some r => some ((k, v) :: r)
    | _, _ => none
  | _ => none
omit [TabEnv] in
def mergeD (kvs more : List (Key × D)) : List (Key × D) := more.foldl (fun acc kv => putD acc kv.1 kv.2) kvs
omit [TabEnv] in
theorem pairs_of {K : PySem.W.Frag} {F H : Hp} {μ : List Addr} (ex : Same F H) : ∀ {ds : List D} {vs : List V} {ks : List (Key × D)}, Reps K F μ vs ds → pairsD ds = some ks → ∃ ps kvs, vs = ps.map V.ref ∧ Paired (fun (p : Addr) (kv : Key × V) => SqT K H p [kV kv.1, kv.2]) ps kvs ∧ kvs.map (·.1) = ks.map (·.1) ∧ Reps K F μ (kvs.map (·.2)) (ks.map (·.2))
  | [], vs, ks, r, e => by
    cases r
    cases e
    exact ⟨[], [], rfl, .nil, rfl, .nil⟩
  | d :: ds, vs, ks, r, e => by
    cases r with
    | cons r1 r2 =>
      unfold pairsD at e
      split at e
      · next h => cases h
      · next k v ds' h =>
        cases h
        split at e
        · next kk r' e1 e2 =>
          cases e
          obtain ⟨ps, kvs, rfl, h1, h2, h3⟩ := pairs_of ex r2 e2
          cases r1 with
          | tup hs rs =>
            cases rs with
            | cons ra rs =>
              cases rs with
              | cons rb rs =>
                cases rs
                have := key_at ra e1
                subst this
                exact ⟨_ :: ps, (kk, _) :: kvs, rfl, .cons (Same.seqT ex hs) h1, by rw [List.map_cons, List.map_cons, h2], .cons rb h3⟩
        · cases e
      · cases e
omit [TabEnv] in
theorem merge_rep {K : PySem.W.Frag} {F : Hp} {μ : List Addr} : ∀ {more : List (Key × V)} {ms : List (Key × D)} {kvs : List (Key × V)} {ks : List (Key × D)}, more.map (·.1) = ms.map (·.1) → Reps K F μ (more.map (·.2)) (ms.map (·.2)) → kvs.map (·.1) = ks.map (·.1) → Reps K F μ (kvs.map (·.2)) (ks.map (·.2)) →
    (mergeK kvs more).map (·.1) = (mergeD ks ms).map (·.1) ∧ Reps K F μ ((mergeK kvs more).map (·.2)) ((mergeD ks ms).map (·.2))
  | [], [], _, _, _, _, h, r => ⟨h, r⟩
  | [], _ :: _, _, _, h, _, _, _ => by cases h
  | _ :: _, [], _, _, h, _, _, _ => by cases h
  | (a1, a2) :: more, (f1, f2) :: ms, kvs, ks, h, r, h', r' => by
    rw [List.map_cons, List.map_cons] at h r
    obtain ⟨h1, h2⟩ := List.cons.inj h
    replace h1 : a1 = f1 := h1
    subst h1
    cases r with
    | cons r1 r2 =>
      obtain ⟨e1, e2⟩ := put_rep (k := a1) r1 h' r'
      exact merge_rep (kvs := putK kvs a1 a2) (ks := putD ks a1 f2) h2 r2 e1 e2
omit [TabEnv] in
def dDctOf (da : M O) : M D := M.bind da fun a c => match (rdlD c a).bind pairsD with
  | some ks => .ok (.loc c.S.length) ⟨c.r, c.S ++ [.dct (mergeD [] ks)]⟩
  | none => .no
omit [TabEnv] in
def rDctOf (K : PySem.W.Frag) : List V → Hp → VK → Prop := fun xs H Q => ∃ (a : Addr) (ps : List Addr) (kvs : List (Key × V)), xs = [.ref a] ∧ SqL K H a (ps.map V.ref) ∧ Paired (fun (p : Addr) (kv : Key × V) => SqT K H p [kV kv.1, kv.2]) ps kvs ∧
    ∀ p, H p = none → Q (.ref p) (upd H p (.dK (mergeK [] kvs)))
theorem dd_dctOf {K : PySem.W.Frag} {p : Pos} (hc : X.calm = true) (hg : Gl X "dict") (hm : X.mg "dict" = none) (hv : bootBuiltins "dict" = some (.type "dict")) (ha : ED X W a ta da)
    (hs : starEach [a] X.env = (false, eval a X.env) :: starEach [] X.env := by rfl)
    (he : starEach [a] X.env = (false, eval a X.env) :: starEach [] X.env := by rfl) (hpl : (backTo pos (starEach [] X.env)).any (·.1) = false := by rfl) (hK : X.K = K := by rfl) :
    DD X W (.Call (.Name "dict" p) [a] [] pos) (tCB (rDctOf K) (tCons ta tNil)) (dDctOf da) := by
  subst hK
  refine ⟨pe_callTy (call_dictP hc) hg hm hv (pa_cons ha.pe pa_nil hs) (by decide) (by decide) he hpl, fun Z F μ c σ H Q R p => ha.ev Z F μ c σ H _ R (p.bind.imp fun o c1 F1 μ1 H1 l1 R1 p1 v1 r1 => ?_)⟩
  split at p1
  · next ks hks =>
    cases hd : rdlD c1 o with
    | none => rw [hd] at hks; cases hks
    | some ds =>
      rw [hd] at hks
      obtain ⟨l, vs, rfl, h1, q1⟩ := rdl_at R1 r1 hd
      obtain ⟨ps, kvs, rfl, g1, g2, g3⟩ := pairs_of R1.ex q1 hks
      refine ⟨l, ps, kvs, rfl, h1, g1, fun q hq => ?_⟩
      obtain ⟨m1, m2⟩ := merge_rep (kvs := []) (ks := []) g2 g3 rfl .nil
      have nb := R1.nob hq
      obtain ⟨R2, l2⟩ := (R1.up (same_new (o := .dK (mergeK [] kvs)) hq)).push (m := .dct (mergeD [] ks)) upd_same nb.f nb.z nb.no nb.nm (.dct m1 (m2.mono ⟨Same.refl _, fun n x h => by
        have hn : n < μ1.length := (List.getElem?_eq_some_iff.mp h).1
        rw [List.getElem?_append_left hn]
        exact h⟩))
      refine p1 F1 _ _ l2 R2 _ (.loc ?_)
      have : μ1.length = c1.S.length := R1.lm
      rw [← this]
      simp
  · exact p1.elim
end
end My

set_option Elab.async false
set_option linter.all false
set_option maxRecDepth 100000
set_option maxHeartbeats 4000000
/-! F22: repr of tuples, in the law's own def alone (where no repr is under way). -/
namespace My
open PySem PySem.Spec L2
variable [TabEnv]
omit [TabEnv] in
mutual
inductive Tld (K : PySem.W.Frag) (H : Hp) : V → PyData → Prop
  | non : Tld K H .non .none
  | bl (b : Bool) : Tld K H (.bl b) (.bool b)
  | int (i : Int) : Tld K H (.int i) (.int i)
  | str (x : Str) : Tld K H (.str x) (.str x)
  | tup {a : Addr} {vs : List V} {ds : List PyData} : SqT K H a vs → Tlds K H vs ds → Tld K H (.ref a) (.tuple ds)
inductive Tlds (K : PySem.W.Frag) (H : Hp) : List V → List PyData → Prop
  | nil : Tlds K H [] []
  | cons {v : V} {d : PyData} {vs : List V} {ds : List PyData} : Tld K H v d → Tlds K H vs ds → Tlds K H (v :: vs) (d :: ds)
end
section
variable {X : Cx} {pins : List (Addr × Obj)} {σ : St} {H : Hp} {s : Shared}
omit [TabEnv] in
mutual
theorem tld_reads (I : Inv X pins σ H s) : ∀ {v : V} {d : PyData} {u : Value}, Tld X.K H v d → RelV v u → ∃ as, Reads s.heap u d as
  | _, _, _, .non, r => by cases (show _ = Value.none from r); exact ⟨_, .none⟩
  | _, _, _, .bl b, r => by cases (show _ = Value.bool b from r); exact ⟨_, .bool b⟩
  | _, _, _, .int i, r => by obtain ⟨t, rfl⟩ := (show ∃ t, _ = Value.int i t from r); exact ⟨_, .int i t⟩
  | _, _, _, .str x, r => by obtain ⟨t, rfl⟩ := (show ∃ t, _ = Value.str x t from r); exact ⟨_, .str x t⟩
  | _, _, _, .tup (a := a) h q, r => by
    cases (show _ = Value.ref a from r)
    obtain ⟨its, rv, ⟨o, h1, h2, n, h3⟩, _⟩ := I.tuple h
    obtain ⟨as, q2⟩ := tlds_reads I q rv
    exact ⟨as, .tuple h1 h2 h3 (by simpa using q2)⟩
theorem tlds_reads (I : Inv X pins σ H s) : ∀ {vs : List V} {ds : List PyData} {us : List Value}, Tlds X.K H vs ds → Vals vs us → ∃ as, ReadsAll s.heap us ds as
  | _, _, _, .nil, .nil => ⟨_, .nil⟩
  | _, _, _, .cons a b, .cons r rs => by
    obtain ⟨as, p⟩ := tld_reads I a r
    obtain ⟨bs, q⟩ := tlds_reads I b rs
    exact ⟨_, .cons p q⟩
end
omit [TabEnv] in
def rReprD (K : PySem.W.Frag) : List V → Hp → VK → Prop := fun xs H Q => ∃ (a : Addr) (d : PyData), xs = [.ref a] ∧ Tld K H (.ref a) d ∧ d.showable = true ∧ d.hasDict = false ∧ d.depth ≤ 60 ∧ d.shown.length ≤ sizeLine ∧ Q (.str d.shown) H
omit [TabEnv] in
theorem call_reprD (hg : X.A.guards = some []) (hu : X.A.units + 66 < cLine) : CallR X (.builtin "repr") (rReprD X.K) := by
  intro pins s σ H xs us Q I r h
  obtain ⟨a, d, rfl, t, h1, h2, h3, h4, q⟩ := h
  obtain ⟨u, rfl, r1⟩ := vals1 r
  obtain ⟨as, rd⟩ := tld_reads I t r1
  cases (show u = Value.ref a from r1)
  refine repr_of_reads' rd h1 (PyData.noDict_hsm h2) hg (by omega) (fun _ _ e => e) (fun h' u tk hk => ?_) h4
  exact ⟨.str d.shown, H, I.kept hk, ⟨_, rfl⟩, q⟩
end
omit [TabEnv] in
mutual
def pdOf : D → Option PyData
  | .v .non => some .none
  | .v (.bl b) => some (.bool b)
  | .v (.int i) => some (.int i)
  | .v (.str x) => some (.str x)
  | .tup ds => (pdsOf ds).map .tuple
  | _ => none
def pdsOf : List D → Option (List PyData)
  | [] => some []
  | d :: ds => match pdOf d, pdsOf ds with
    | some p, some ps => some (p :: ps)
    | _, _ => none
end
omit [TabEnv] in
mutual
theorem rep_tld {K : PySem.W.Frag} {F H : Hp} {μ : List Addr} (e : Same F H) : ∀ {v : V} {d : D} {p : PyData}, Rep K F μ v d → pdOf d = some p → Tld K H v p
  | _, _, _, .v x, h => by
    cases x <;> simp only [pdOf] at h <;> cases h <;> constructor
  | _, _, _, .tup (ds := ds) hq r, h => by
    simp only [pdOf] at h
    cases hp : pdsOf ds with
    | none => rw [hp] at h; cases h
    | some ps =>
      rw [hp] at h
      cases h
      exact .tup (Same.seqT e hq) (reps_tlds e r hp)
  | _, _, _, .lst _ _, h => by simp only [pdOf] at h; cases h
  | _, _, _, .scr _ _, h => by simp only [pdOf] at h; cases h
  | _, _, _, .dct _ _ _, h => by simp only [pdOf] at h; cases h
  | _, _, _, .ins _ _ _, h => by simp only [pdOf] at h; cases h
  | _, _, _, .loc _, h => by simp only [pdOf] at h; cases h
  | _, _, _, .exn0, h => by simp only [pdOf] at h; cases h
  | _, _, _, .exn1 _ _, h => by simp only [pdOf] at h; cases h
theorem reps_tlds {K : PySem.W.Frag} {F H : Hp} {μ : List Addr} (e : Same F H) : ∀ {vs : List V} {ds : List D} {ps : List PyData}, Reps K F μ vs ds → pdsOf ds = some ps → Tlds K H vs ps
  | _, _, _, .nil, h => by
    simp only [pdsOf] at h
    cases h
    exact .nil
  | _, _, _, .cons (d := d) (ds := ds) r rs, h => by
    simp only [pdsOf] at h
    cases hp : pdOf d with
    | none => rw [hp] at h; cases h
    | some p =>
      cases hq : pdsOf ds with
      | none => rw [hp, hq] at h; cases h
      | some ps =>
        rw [hp, hq] at h
        cases h
        exact .cons (rep_tld e r hp) (reps_tlds e rs hq)
end
omit [TabEnv] in
mutual
theorem pdOf_nd : ∀ {d : D} {p : PyData}, pdOf d = some p → p.hasDict = false
  | .v x, _, h => by
    cases x <;> simp only [pdOf] at h <;> cases h <;> simp only [PyData.hasDict]
  | .tup ds, _, h => by
    simp only [pdOf] at h
    cases hp : pdsOf ds with
    | none => rw [hp] at h; cases h
    | some ps =>
      rw [hp] at h
      cases h
      simp only [PyData.hasDict]
      exact pdsOf_nd hp
  | .lst _, _, h => by simp only [pdOf] at h; cases h
  | .scr _, _, h => by simp only [pdOf] at h; cases h
  | .dct _, _, h => by simp only [pdOf] at h; cases h
  | .ins _ _, _, h => by simp only [pdOf] at h; cases h
  | .loc _, _, h => by simp only [pdOf] at h; cases h
  | .exn _ _ _ _, _, h => by simp only [pdOf] at h; cases h
theorem pdsOf_nd : ∀ {ds : List D} {ps : List PyData}, pdsOf ds = some ps → PyData.hasDictAll ps = false
  | [], _, h => by
    simp only [pdsOf] at h
    cases h
    simp only [PyData.hasDictAll]
  | d :: ds, _, h => by
    simp only [pdsOf] at h
    cases hp : pdOf d with
    | none => rw [hp] at h; cases h
    | some p =>
      cases hq : pdsOf ds with
      | none => rw [hp, hq] at h; cases h
      | some ps =>
        rw [hp, hq] at h
        cases h
        simp only [PyData.hasDictAll, pdOf_nd hp, pdsOf_nd hq, Bool.or_self]
end
omit [TabEnv] in
def gRepr : O → M D := fun a c => match a with
  | .d (.tup ds) => match pdOf (.tup ds) with
    | some p => if p.showable = true ∧ p.depth ≤ 60 ∧ p.shown.length ≤ 16777216 then .ok (.v (.str p.shown)) c else .no
    | none => .no
  | _ => .no
section
variable {X : Cx} {W : WX}
theorem c1_repr {K : PySem.W.Frag} : C1S K W (rReprD K) gRepr := fun Z F μ c σ H Q x a R rx p => by
  unfold gRepr at p
  split at p
  · next ds =>
    split at p
    · next pd hp =>
      split at p
      · next hz =>
        cases rx with
        | d rx =>
          have t := rep_tld R.ex rx hp
          have nd := pdOf_nd hp
          cases rx
          exact ⟨_, pd, rfl, t, hz.1, nd, hz.2.1, hz.2.2, p F μ H (Le.refl _ _) R _ (.v _)⟩
      · exact p.elim
    · exact p.elim
  · exact p.elim
theorem bRepr {K : PySem.W.Frag} (hg : X.A.guards = some []) (hu : X.A.units + 66 < cLine) (hK : X.K = K := by rfl) : B1 X W (.builtin "repr") (rReprD K) gRepr := by
  subst hK
  exact ⟨call_reprD hg hu, c1_repr⟩
end
omit [TabEnv] in
/-- a def's promise where no repr is under way -/
structure FnG (P : Program) (w : World) (K : PySem.W.Frag) (mg : Str → Option Value) (base : Heap) (CX : CXT) (k : Nat) (f : Addr) (fd : FuncData) (ps : List Str) (sp : Sp) : Prop where
  run : ∀ (A : Around) (outer : List Env) (s : Shared) (H : Hp) (args : Args) (us : List Value) (vs : List V) (Q : VK) (E : XK), A.guards = some [] → Room k A → Env0 P w K mg base A outer s H → BindsTo s fd args (ps.zip us) → Vals vs us → sp vs H Q E →
    codeAny (model P w) A (.call (.ref f) args) (CR CX outer P w H s Q E) s
theorem fn_okG {P : Program} {w : World} {K : PySem.W.Frag} {mg : Str → Option Value} {base : Heap} {x qual : Str} {st : Stmt} {f : Addr} {fd : FuncData} {N ps : List Str} {j k : Nat} {b : M Fl} (F : Fun K x qual st f fd) (S : FnScope N ps (defScope st)) (hk : ps.length = k) (hN : k ≤ N.length)
    (body : ∀ (cdv : Value) (A : Around) (outer : List Env) (s : Shared) (H : Hp) (E : XK), A.guards = some [] → Room j (A.deeper (PyProof.Rows.envOfC qual (defScope st) s.heap.objs.size f cdv)) →
      ∃ t, BD (cxOf (L2N.CX P w) P w K mg base N qual (defScope st) f cdv A outer s H E) (fun cls d _ H => E cls d H) (defBody st) t b) : FnG P w K mg base (L2N.CX P w) (j + 1) f fd ps (spG K (runD N.length k b)) := by
  obtain ⟨oc, od, kV, doc, pm, an, cdv, ct, osl, rfl, lk, hcd⟩ := F.ex
  refine ⟨fun A outer s H args us vs Q E hg hr e0 hb r hsp => ?_⟩
  obtain ⟨Z, F0, μ, S0, ds, R, rs, p⟩ := hsp
  unfold runD at p
  split at p
  · next hl =>
    refine LamX.run_ofS lk hcd S hr e0 hb r (by rw [rs.length, hl, hk]) fun hr' => ?_
    obtain ⟨t, B⟩ := body cdv A outer s H E hg hr'
    refine ⟨t, B.ps, B.ev Z F0 μ _ _ H _ (rel_start R rs hl hN) ?_⟩
    have strip : ∀ {F' : Hp} {μ' : List Addr} {c : Stt} {σ' : St} {H' : Hp}, Rel K Z F' μ' c σ' H' → Rel K Z F' μ' ⟨[], c.S⟩ [] H' := fun h =>
      { ex := h.ex, exz := h.exz, fz := h.fz, len := rfl, slot := fun i x e => by simp at e, own := fun i x e => by simp at e, dis := fun i j a m m' e => by simp at e, lm := h.lm, sto := h.sto, dst := fun i n a m e => by simp at e, ndm := h.ndm, tab := h.tab }
    cases e : b ⟨ds.map .d ++ List.replicate (N.length - k) .no, S0⟩ with
    | no => rw [e] at p; exact p.elim
    | ex x c => rw [e] at p; exact fun cls od σ' F' μ' H' l R' rx => p cls od F' μ' H' l (strip R') rx
    | ok fl c =>
      rw [e] at p
      cases fl with
      | nx => exact fun σ' F' μ' H' l R' => p .non F' μ' H' l (strip R') (.v _)
      | rt d => exact fun v σ' F' μ' H' l R' rv => p v F' μ' H' l (strip R') rv
      | bk => exact p.elim
      | ct => exact p.elim
  · exact p.elim
omit [TabEnv] in
/-- what is known of the script, nothing else -/
structure Fresh (K : PySem.W.Frag) (H : Hp) (h : Heap) (a : Addr) (xs : List V) : Prop where
  dom : ∀ b u, H b = some u → b = a ∧ K.lookup a = none ∧ ∃ o, h.get? a = some o ∧ u = .frz o (.lst xs)
  sq : SqL K H a xs
section
variable {P : Program} {w : World} {K : PySem.W.Frag} {mg mb : Str → Option Value} {s : Shared} {a : Addr} {vs : List Value} {xs : List V}
omit [TabEnv] in
theorem fresh_of (KX : K.In s.heap) (ha : s.heap.get? a = some { cls := .type "list", data := .seq vs.toArray }) (rv : Vals xs vs) (hl : xs.length ≤ sizeLine) : ∃ H, Fresh K H s.heap a xs ∧ HOk P w H s.heap := by
  cases hk : K.lookup a with
  | some o =>
    have e := (KX a o hk).symm.trans ha
    cases e
    exact ⟨fun _ => none, ⟨fun b u e => (by cases e), .inr ⟨_, vs.toArray, _, hk, rfl, rfl, rfl, (by rw [List.size_toArray, ← rv.length]; exact hl), (by simpa using rv)⟩⟩, fun b u e => (by cases e)⟩
  | none =>
    refine ⟨upd (fun _ => none) a (.frz { cls := .type "list", data := .seq vs.toArray } (.lst xs)), ⟨fun b u e => ?_, .inl (.inr ⟨_, upd_same⟩)⟩, fun b u e => ?_⟩
    · by_cases hb : b = a
      · subst hb
        rw [upd_same] at e
        cases e
        exact ⟨rfl, hk, _, ha, rfl⟩
      · rw [upd_ne hb] at e
        cases e
    · by_cases hb : b = a
      · subst hb
        rw [upd_same] at e
        cases e
        exact ⟨ha, hl, vs, _, rv, ha⟩
      · rw [upd_ne hb] at e
        cases e
omit [TabEnv] in
theorem law_callG {k : Nat} {fa : Addr} {fd : FuncData} {x : Str} {sp : Sp} {ns : List Int} (KX : K.In s.heap) (g1 : s.heap.Ns mainGlobals mg) (g2 : s.heap.Ns builtinsNs mb) (g3 : ∀ y : Str, y ≠ "__name__" → mb y = bootBuiltins y) (g4 : s.heap.NoLimit) (g5 : s.gens = #[])
    (ha : s.heap.get? a = some { cls := .type "list", data := .seq vs.toArray }) (hi : PyProof.Rows.IntsAre vs ns) (hl : ns.length ≤ sizeLine) (hr : Room k callerA)
    (F : ∀ b : Heap, K.In b → b.Ns mainGlobals mg → FnG P w K mg b (L2N.CX P w) k fa fd [x] sp) (hb : ∀ (t : Shared) (u : Value), BindsTo t fd ⟨[u], []⟩ [(x, u)])
    (hsp : ∀ H, SqL K H a (ns.map V.int) → sp [.ref a] H (fun v _ => v = .bl true) E00) :
    codeAny (model P w) callerA (.call (.ref fa) ⟨[.ref a], []⟩) (fun r t => r = .ok (.ret (.bool true)) ∧ OldK s.heap t.heap ∧ t.os = s.os ∧ PyProof.Rows.AllBare t.gens) s := by
  obtain ⟨H, fr, hok⟩ := fresh_of (P := P) (w := w) KX ha (L2.vals_ints hi) (by rw [List.length_map]; exact hl)
  have out : ∀ {b : Addr} {o : Obj}, s.heap.get? b = some o → (b = a → K.lookup a ≠ none) → (hidT s.heap H).get? b = some o := fun {b o} e n => hidT_get e (by
    cases q : H b with
    | none => rfl
    | some u =>
      obtain ⟨e1, e2, _⟩ := fr.dom b u q
      exact absurd e2 (n e1))
  have nsO : ∀ {b : Addr} {m : Str → Option Value}, s.heap.Ns b m → (hidT s.heap H).Ns b m := fun {b m} ⟨o, es, ep, e, d, z⟩ => ⟨o, es, ep, out e (fun q => by
    subst q
    rw [ha] at e
    cases e
    cases d), d, z⟩
  have KB : K.In (hidT s.heap H) := fun b o e => out (KX b o e) fun q z => by
    subst q
    rw [z] at e
    cases e
  have M : Mod K mg (hidT s.heap H) := ⟨KB, nsO g1, ⟨mb, nsO g2, g3⟩, g4.elim fun mc z => ⟨mc, nsO z.1, z.2⟩⟩
  have e0 : Env0 P w K mg (hidT s.heap H) callerA [] s H := { frames := rfl, mod := M, bs := fun b o e => of_hidT e, bsz := Nat.le_of_eq (hidT_size _ _), funs := trivial, frf := fun b q => absurd q List.not_mem_nil, hok := hok, bare := .of_eq g5 }
  have run := (F _ KB (nsO g1)).run callerA [] s H ⟨[.ref a], []⟩ [.ref a] [.ref a] _ _ rfl hr e0 (hb s (.ref a)) (.cons rfl .nil) (hsp H fr.sq)
  refine codeAny_mono run fun r t z => ?_
  match r, z with
  | .error e, z => exact (cx_end P w H s e t z).elim
  | .ok .next, z => exact False.elim z
  | .ok .brk, z => exact False.elim z
  | .ok .cont, z => exact False.elim z
  | .ok (.ret u), z =>
    obtain ⟨v, H', os, bare, un, hok', r', q⟩ := z
    cases (show v = V.bl true from q)
    cases (show u = Value.bool true from r')
    refine ⟨rfl, OldK.of_keep fun b o e => ?_, os, bare⟩
    cases q : H b with
    | none => exact un.keep b o e q (fun z => absurd z List.not_mem_nil) (by simp)
    | some u =>
      obtain ⟨rfl, _, o', e1, rfl⟩ := fr.dom b u q
      rw [e] at e1
      cases e1
      exact (hok' b _ (un.frzs b _ _ q)).1
end
omit [TabEnv] in
/-- the end, where the law's def makes reprs -/
theorem walk_ofG {l : PySem.W.OpenLaw} {n k : Nat} {q : Program} {loose : List Str} {XP : (Str → Option Value) → Heap → Prop} {YP : World → Heap → Prop} {d : DefRec} {K : Params → PySem.W.Frag} {sp : World → Sp} {x : Str}
    (hn : l.most = some n) (hn2 : n ≤ sizeLine) (hdf : d.params.defaults = []) (hr : Room k callerA) (hY : ∀ (w : World) (h : Heap), YP w h → (K w.params).In h)
    (F : ∀ (w : World) (mg : Str → Option Value) (fa : Addr) (h : Heap), (K w.params).In h → h.Ns mainGlobals mg → mg d.name = some (.ref fa) →
      ∃ fd : FuncData, (∀ (s : Shared) (u : Value), BindsTo s fd ⟨[u], []⟩ [(x, u)]) ∧ ∀ base : Heap, (K w.params).In base → base.Ns mainGlobals mg → FnG l.prog w (K w.params) mg base (L2N.CX l.prog w) k fa fd [x] (sp w))
    (hsp : ∀ (w : World) (H : Hp) (a : Addr) (ns : List Int), ns.length ≤ n → SqL (K w.params) H a (ns.map V.int) → sp w [.ref a] H (fun v _ => v = .bl true) E00) :
    PySem.W.WalkO q loose XP YP l.row.toRowW d [] (fun f vs => PySem.call f vs) := by
  refine Att.attach_call hn hdf fun w s0 s1 mg mb fa o pm cd doc a vs ns G Y _ _ _ hmg hobj hints hlen hg => ?_
  obtain ⟨fd, hb, hF⟩ := F w mg fa _ (hY w _ Y) G.T.g hmg
  exact law_callG (hY w _ Y) G.T.g G.T.b G.T.builtins G.T.nolimit hg hobj hints (Nat.le_trans hlen hn2) hr hF hb fun H z => hsp w H a ns hlen z
theorem law_okG {P : Program} {w : World} {K : PySem.W.Frag} {mg : Str → Option Value} {fa : Addr} {x p : Str} {k n : Nat} {g : G} (ht : ∀ ns : List Int, ns.length ≤ n → ∃ S, g [scr ns] [] = .ok (.v (.bl true)) S) (hfa : mg x = some (.ref fa)) (d : ∃ f fd, mg x = some (.ref f) ∧ (∀ us : List Value, us.length = 1 → bindArgs fd ⟨us, []⟩ = pure ([p].zip us)) ∧ ∀ base : Heap, K.In base → base.Ns mainGlobals mg → FnG P w K mg base (L2N.CX P w) k f fd [p] (spG K g)) :
    ∃ fd : FuncData, (∀ (s : Shared) (v : Value), BindsTo s fd ⟨[v], []⟩ [(p, v)]) ∧ ∀ base : Heap, K.In base → base.Ns mainGlobals mg → FnG P w K mg base (L2N.CX P w) k fa fd [p] (spLaw n K) := by
  obtain ⟨f, fd, h1, h2, h3⟩ := d
  have e := hfa.symm.trans h1
  cases e
  exact ⟨fd, fun s v => .of_eq (h2 [v] rfl), fun base a b => ⟨fun A outer s H args us vs Q E hg hr e0 hb r z => (h3 base a b).run A outer s H args us vs Q E hg hr e0 hb r (law_sp ht vs H Q E z)⟩⟩
end My

set_option Elab.async false
set_option linter.all false
set_option maxRecDepth 100000
set_option maxHeartbeats 4000000
/-! F23: enumerate and zip of lists and tuples, in any mix. -/
namespace My
open PySem PySem.Spec L2
variable [TabEnv]
/-! ### a list (false) or a tuple (true) -/
omit [TabEnv] in
def SqK (k : Bool) (K : PySem.W.Frag) (H : Hp) (a : Addr) (xs : List V) : Prop := bif k then SqT K H a xs else SqL K H a xs
omit [TabEnv] in
def IsK (k : Bool) (h : Heap) (a : Addr) (its : Array Value) : Prop := bif k then h.IsTuple a its else h.IsList a its
omit [TabEnv] in
def ItK (k : Bool) (h : Heap) (it a : Addr) (i : Nat) : Prop := bif k then h.IsTupleIter it a i else h.IsListIter it a i
omit [TabEnv] in
def iterObj (k : Bool) (a : Addr) : Obj := bif k then { cls := .type "tuple_iterator", data := .fields #[.ref a, .int 0 0] } else { cls := .type "list_iterator", data := .fields #[.ref a, .int 0 0] }
omit [TabEnv] in
theorem ItK.get {k : Bool} {h : Heap} {it a : Addr} {i : Nat} (q : ItK k h it a i) : ∃ o, h.get? it = some o ∧ ∃ fs, o.data = .fields fs := by
  cases k with
  | true => obtain ⟨o, h1, _, h2⟩ := (show h.IsTupleIter it a i from q); exact ⟨o, h1, _, h2⟩
  | false => obtain ⟨o, h1, _, h2⟩ := (show h.IsListIter it a i from q); exact ⟨o, h1, _, h2⟩
omit [TabEnv] in
theorem ItK.keep {k : Bool} {h h' : Heap} {it a : Addr} {i : Nat} (q : ItK k h it a i) (e : ∀ o, h.get? it = some o → h'.get? it = some o) : ItK k h' it a i := by
  cases k with
  | true => exact Heap.IsTupleIter.at (show h.IsTupleIter it a i from q) e
  | false => exact Heap.IsListIter.at (show h.IsListIter it a i from q) e
omit [TabEnv] in
theorem ItK.new {k : Bool} {h : Heap} {it a : Addr} (q : h.get? it = some (iterObj k a)) : ItK k h it a 0 := by
  cases k with
  | true => exact ⟨_, q, rfl, rfl⟩
  | false => exact ⟨_, q, rfl, rfl⟩
omit [TabEnv] in
theorem begins_k (k : Bool) (a : Addr) (its : Array Value) : Begins (.ref a) (iterObj k a) fun h => IsK k h a its := by
  cases k with
  | true => exact begins_tuple a its
  | false => exact begins_list a its
omit [TabEnv] in
theorem draws_k {P : Program} {w : World} {A : Around} (hh : A.handled = none) (k : Bool) (it a : Addr) (hne : a ≠ it) (its : Array Value) :
    Draws P w A it [it, a] its.size (fun i v => its[i]? = some v) (fun i h => ItK k h it a i ∧ IsK k h a its) := by
  cases k with
  | true => exact Draws.tuple hh it a hne its
  | false => exact Draws.list hh it a hne its
omit [TabEnv] in
/-- an iterator that is past its end -/
theorem draws_end {P : Program} {w : World} {A : Around} (hh : A.handled = none) (k : Bool) (it a : Addr) (its : Array Value) (n : Nat) (hn : its.size ≤ n) :
    Draws P w A it [it, a] n (fun i v => its[i]? = some v) (fun i h => (ItK k h it a i ∧ IsK k h a its) ∧ i = n) where
  live := fun i h st => by
    obtain ⟨o, ho, _⟩ := st.1.1.get
    exact ⟨o, ho⟩
  frame := fun i h h' st hk => by
    refine ⟨⟨st.1.1.keep fun o e => hk it (by simp) o e, ?_⟩, st.2⟩
    cases k with
    | true => exact Heap.IsTuple.at (show h.IsTuple a its from st.1.2) fun o e => hk a (by simp) o e
    | false => exact Heap.IsList.at (show h.IsList a its from st.1.2) fun o e => hk a (by simp) o e
  item := fun i s Q E hi st hQ => absurd st.2 (Nat.ne_of_lt hi)
  done := fun s Q E st hE => by
    have hx : its[n]? = none := by simp [hn]
    cases k with
    | true => exact wpAny_nextOf_tuple_end hh (show s.heap.IsTupleIter it a n from st.1.1) (show s.heap.IsTuple a its from st.1.2) hx hE
    | false => exact wpAny_nextOf_list_end hh (show s.heap.IsListIter it a n from st.1.1) (show s.heap.IsList a its from st.1.2) hx hE
section
variable {X : Cx} {pins : List (Addr × Obj)} {σ : St} {H : Hp} {s : Shared}
omit [TabEnv] in
theorem Inv.seqK (I : Inv X pins σ H s) {k : Bool} {a : Addr} {xs : List V} (h : SqK k X.K H a xs) : ∃ its : List Value, Vals xs its ∧ IsK k s.heap a its.toArray ∧ a < s.heap.objs.size := by
  cases k with
  | true =>
    obtain ⟨its, r, p, _⟩ := L2.Inv.tuple I (show SqT X.K H a xs from h)
    exact ⟨its, r, p, p.lt⟩
  | false =>
    obtain ⟨its, r, p, _⟩ := L2.Inv.list I (show SqL X.K H a xs from h)
    exact ⟨its, r, p.isList, p.lt⟩
omit [TabEnv] in
theorem Inv.seqK_inj (I : Inv X pins σ H s) {k : Bool} {a : Addr} {xs ys : List V} (h : SqK k X.K H a xs) (h' : SqK k X.K H a ys) : xs = ys := by
  cases k with
  | true => exact L2.Inv.tuple_inj I h h'
  | false => exact L2.Inv.list_inj I h h'
end
/-! ### enumerate -/
omit [TabEnv] in
def ItEn (k : Bool) (K : PySem.W.Frag) (a : Addr) : It where
  go := fun i H => ∃ xs x, SqK k K H a xs ∧ xs[i]? = some x
  yld := fun i H v H' => ∃ T x, v = .ref T ∧ H T = none ∧ H' = upd H T (.tup [.int (i : Nat), x]) ∧ ∀ xs, SqK k K H a xs → xs[i]? = some x
  stop := fun i H => ∃ xs : List V, SqK k K H a xs ∧ xs.length ≤ i
omit [TabEnv] in
def StEn (k : Bool) (e it a : Addr) (i : Nat) (h : Heap) : Prop := (∃ old, IsEnum h e it ((i : Nat) : Int) old) ∧ ItK k h it a i ∧ e ≠ it ∧ a ≠ it ∧ a ≠ e
omit [TabEnv] in
theorem turn_en {P : Program} {w : World} {K : PySem.W.Frag} {elts : List Expr} {kk : Nat} {tpos : Pos} (k : Bool) (a e it : Addr) : Turn P w K (.Tuple elts kk tpos) (ItEn k K a) [e, it] e (StEn k e it a) where
  mem := List.mem_cons_self
  obj := fun i h st b hb => by
    obtain ⟨⟨old, he⟩, hi, _⟩ := st
    rcases List.mem_cons.mp hb with rfl | hb
    · exact ⟨_, he, fun v q => nomatch q⟩
    · obtain rfl : b = it := by simpa using hb
      obtain ⟨o, ho, fs, hd⟩ := hi.get
      exact ⟨o, ho, fun v q => by rw [hd] at q; cases q⟩
  keep := fun i h h' ⟨⟨old, he⟩, hi, r⟩ st => ⟨⟨old, st e (by simp) _ he⟩, hi.keep fun o q => st it (by simp) o q, r⟩
  item := by
    rintro X rfl rfl rfl hc i pins s σ H E I hf ⟨⟨old, he⟩, hit, hne, ha1, ha2⟩ ⟨xs, x, hq, hx⟩
    obtain ⟨its, rv, p, hal⟩ := Inv.seqK I hq
    obtain ⟨u0, hu0, ru0⟩ := rv.get hx
    have hi : i < its.toArray.size := by
      rw [List.size_toArray]
      exact (List.getElem?_eq_some_iff.mp hu0).1
    have hel : e < s.heap.objs.size := Heap.lt_size he
    refine wpAny_pyNext_enum_itemD (draws_k (show X.A.in1.handled = none from I.ok.hd hc) k it a ha1 its.toArray) he ⟨hit, p⟩ hi hne (by simp [hne, ha2.symm]) fun u h' tk hu ho st' hT hsz hk => ?_
    have hu' : its[i]? = some u := by simpa using hu
    rw [hu0] at hu'
    cases hu'
    refine ⟨_, rfl, wpAny_letOwnedTupleGo_enum (s := { s with heap := h', toks := tk + 1 }) ho fun h2 he2 sb => ?_⟩
    have back : ∀ b o, b ∉ [e, it] → s.heap.get? b = some o → h2.get? b = some o := fun b o hb q => (sb.2 b fun z => hb (by simp [z])).trans (hk b o (fun z => hb (by simp [z])) (fun z => hb (by simp [z])) q)
    have hT2 := (sb.2 _ (Nat.ne_of_gt hel)).trans hT
    have okT : ObjOk X.prog X.w (upd H s.heap.objs.size (.tup [.int (i : Nat), x])) h2 s.heap.objs.size (.tup [.int (i : Nat), x]) := ⟨(by decide : 2 ≤ sizeLine), [.int i tk, u0], .cons ⟨_, rfl⟩ (.cons ru0 .nil), _, hT2, rfl, _, rfl⟩
    have I2 := I.turnedNew (ch := [e, it]) (t' := tk + 1) back hf (Nat.le_refl _) okT
    have e1 : ((i + 1 : Nat) : Int) = (i : Int) + 1 := by omega
    refine ⟨.ref s.heap.objs.size, _, I2, rfl, ⟨_, x, rfl, I.hok.fresh (Nat.le_refl _), rfl, fun ys hy => by rw [Inv.seqK_inj I hy hq]; exact hx⟩, ⟨⟨u0, by rw [e1]; exact he2⟩, st'.1.keep fun o q => (sb.2 it hne.symm).trans q, hne, ha1, ha2⟩, fun b hb => ?_⟩
    have hb' : b < s.heap.objs.size := by
      rcases List.mem_cons.mp hb with rfl | hb
      · exact hel
      · obtain rfl : b = it := by simpa using hb
        obtain ⟨o, ho', _⟩ := hit.get
        exact Heap.lt_size ho'
    rw [upd_ne (Nat.ne_of_lt hb')]
    exact (hf b hb).1
  done := by
    rintro X rfl rfl rfl hc i pins s σ H E I hf ⟨⟨old, he⟩, hit, hne, ha1, ha2⟩ ⟨xs, hq, hx⟩
    obtain ⟨its, rv, p, hal⟩ := Inv.seqK I hq
    have hz : its.toArray.size ≤ i := by
      rw [List.size_toArray, ← rv.length]
      exact hx
    refine wpAny_pyNext_enum_endD (draws_end (show X.A.in1.handled = none from I.ok.hd hc) k it a its.toArray i hz) he ⟨⟨hit, p⟩, rfl⟩ fun h' eb => ⟨rfl, ?_⟩
    exact I.turnedL (t' := s.toks) (ch := [e, it]) (fun b o hb q => eb b o (fun z => hb (by simp [z])) q) hf
  self := fun A i s Q E st h => st.1.elim fun _ he => wpAny_pyIter_enum he h
omit [TabEnv] in
theorem meets_enum1 {v : Value} {o : Obj} {H : Heap → Prop} (B : Begins v o H) :
    Meets (Builtin.«enumerate.__new__» ⟨[.type "enumerate", v], []⟩) (fun _ R s => H s.heap ∧ R (.ok (.ret (.ref (s.heap.push o).objs.size))) { s with heap := (s.heap.push o).push { cls := .type "enumerate", data := .fields #[.none, .bool false, .ref s.heap.objs.size, rawInt 0, .none, .none] } }) :=
  .of_wp fun prog w A R s h => by
    obtain ⟨hp, g, d, tk, os⟩ := s
    obtain ⟨h1, h⟩ := h
    have hsub := sub_enumerate
    have q1 : ∀ {A' : Around} {E : Value → Shared → Prop} {Q : Value → Shared → Prop}, Q (.ref hp.objs.size) ⟨hp.push o, g, d, tk, os⟩ → wpAny (model prog w) A' (pyIter v) Q E ⟨hp, g, d, tk, os⟩ := fun q => B.iter prog w _ _ ⟨hp, g, d, tk, os⟩ _ h1 q
    wp_walk using q1
    refine wpAny_stack_any fun st => wpAny_pure ?_
    split
    · rename_i c _ _ _ _ _
      cases (c == Value.type "enumerate")
      · wp_walk using q1
        exact ⟨_, rfl, h⟩
      · wp_walk using q1
        exact ⟨_, rfl, h⟩
    · wp_walk using q1
      exact ⟨_, rfl, h⟩
omit [TabEnv] in
theorem enum_begin1 {P : Program} {w : World} {A : Around} {E : Value → Shared → Prop} {s : Shared} {v : Value} {o : Obj} {H : Heap → Prop} {Q : Value → Shared → Prop} (B : Begins v o H) (h1 : H s.heap)
    (h : ∀ h', IsEnum h' (s.heap.objs.size + 1) s.heap.objs.size 0 .none → h'.get? s.heap.objs.size = some o → (∀ b o, s.heap.get? b = some o → h'.get? b = some o) → Q (.ref (s.heap.objs.size + 1)) { s with heap := h' }) :
    wpAny (model P w) A (call (.type "enumerate") [v]) Q E s := by
  refine callType_new F.called_enumerate (by decide) (F.typeCall_enumerate_1 _) (F.newCall_enumerate_1 _) (fun obj => F.args_object_init_2 obj _) F.entry_enumerate_new (meets_enum1 B) ⟨h1, ?_⟩
  have hz : (s.heap.push o).objs.size = s.heap.objs.size + 1 := Heap.size_push ..
  have he := Heap.get?_push_size (s.heap.push o) (o := { cls := .type "enumerate", data := .fields #[.none, .bool false, .ref s.heap.objs.size, rawInt 0, .none, .none] }) rfl
  rw [hz] at he ⊢
  refine ⟨⟨_, he, rfl⟩, h _ he (Heap.get?_push_of_some _ (Heap.get?_push_size _ B.free)) fun b o q => Heap.get?_push_of_some _ (Heap.get?_push_of_some _ q)⟩
omit [TabEnv] in
def iEnK (K : PySem.W.Frag) (ta : TA) : TI := fun σ H R => ta σ H fun vs H1 => ∃ k a xs, vs = [.ref a] ∧ SqK k K H1 a xs ∧ R (ItEn k K a) H1
omit [TabEnv] in
theorem pi_enK {X : Cx} {e : Expr} {ta : TA} {p pos tpos : Pos} {elts : List Expr} {kk : Nat} (hg : Gl X "enumerate") (hm : X.mg "enumerate" = none) (ha : PA X [e] ta) (hs : starEach [e] X.env = [(false, eval e X.env)] := by rfl) :
    PI X (.Tuple elts kk tpos) (.Call (.Name "enumerate" p) [e] [] pos) (iEnK X.K ta) := by
  refine ⟨fun pins s σ H R I h => PyProof.Rows.Call_ (ld_blt I hg hm PyProof.Rows.boot_enumerate (PyProof.Rows.callWith_type1 (thn (ha.run pos pins s σ H _ I h) fun us s1 ⟨vs, H1, I1, r1, q1⟩ => ?_) hs rfl))⟩
  obtain ⟨k, a, xs, rfl, hq, q⟩ := q1
  obtain ⟨u, rfl, r⟩ := vals1 r1
  cases (show u = Value.ref a from r)
  obtain ⟨its, rv, p', hal⟩ := Inv.seqK I1 hq
  refine enum_begin1 (begins_k k a its.toArray) p' fun h' he ho hk => wpAny_pyIter_enum he ?_
  have I2 : Inv X pins σ H1 { s1 with heap := h' } := I1.kept (t' := s1.toks) hk
  refine ⟨s1.heap.objs.size + 1, [s1.heap.objs.size + 1, s1.heap.objs.size], _, _, H1, rfl, I2, turn_en k a (s1.heap.objs.size + 1) s1.heap.objs.size, ⟨⟨.none, he⟩, ItK.new ho, Nat.succ_ne_self _, Nat.ne_of_lt hal, Nat.ne_of_lt (Nat.lt_succ_of_lt hal)⟩, fun b hb => ?_, q⟩
  have hle : s1.heap.objs.size ≤ b := by
    rcases List.mem_cons.mp hb with rfl | hb
    · exact Nat.le_succ _
    · obtain rfl : b = s1.heap.objs.size := by simpa using hb
      exact Nat.le_refl _
  exact I1.fpOk hle (I1.hok.fresh hle)
/-! ### zip -/
omit [TabEnv] in
def ItZp (k1 k2 : Bool) (K : PySem.W.Frag) (a b : Addr) : It where
  go := fun i H => ∃ xs ys x y, SqK k1 K H a xs ∧ SqK k2 K H b ys ∧ xs[i]? = some x ∧ ys[i]? = some y
  yld := fun i H v H' => ∃ T x y, v = .ref T ∧ H T = none ∧ H' = upd H T (.tup [x, y]) ∧ (∀ xs, SqK k1 K H a xs → xs[i]? = some x) ∧ ∀ ys, SqK k2 K H b ys → ys[i]? = some y
  stop := fun i H => ∃ xs ys : List V, SqK k1 K H a xs ∧ SqK k2 K H b ys ∧ (xs.length ≤ i ∨ ys.length ≤ i)
omit [TabEnv] in
/-- what an iterator that stands at i draws, be it at its end or not -/
theorem draws_any {P : Program} {w : World} {A : Around} (hh : A.handled = none) (k : Bool) (it a : Addr) (hne : a ≠ it) (its : Array Value) (i : Nat) (h : Heap) (q : ItK k h it a i) (p : IsK k h a its) :
    ∃ n St, Draws P w A it [it, a] n (fun j v => its[j]? = some v) St ∧ St i h ∧ i ≤ n ∧ (its.size ≤ i → i = n) := by
  by_cases hi : i ≤ its.size
  · exact ⟨_, _, draws_k hh k it a hne its, ⟨q, p⟩, hi, fun z => Nat.le_antisymm hi z⟩
  · exact ⟨_, _, draws_end hh k it a its i (by omega), ⟨⟨q, p⟩, rfl⟩, Nat.le_refl _, fun _ => rfl⟩
omit [TabEnv] in
def StZp (k1 k2 : Bool) (z TI TO i1 i2 a b : Addr) (i : Nat) (h : Heap) : Prop := IsZip h z TI TO .none ∧ IsTupOf2 h TI (.ref i1) (.ref i2) ∧ (∃ x y, IsTupOf2 h TO x y) ∧ ItK k1 h i1 a i ∧ ItK k2 h i2 b i ∧ ZipSep2 z TI TO i1 i2 [i1, a] [i2, b] ∧ a ≠ i1 ∧ b ≠ i2
omit [TabEnv] in
theorem in5 {z TI TO i1 i2 c : Addr} (h : c ∈ [z, TI, TO, i1, i2]) : c = z ∨ c = TI ∨ c = TO ∨ c = i1 ∨ c = i2 := by simpa using h
omit [TabEnv] in
theorem turn_zp {P : Program} {w : World} {K : PySem.W.Frag} {elts : List Expr} {kk : Nat} {tpos : Pos} (k1 k2 : Bool) (a b z TI TO i1 i2 : Addr) : Turn P w K (.Tuple elts kk tpos) (ItZp k1 k2 K a b) [z, TI, TO, i1, i2] z (StZp k1 k2 z TI TO i1 i2 a b) where
  mem := List.mem_cons_self
  obj := fun i h ⟨s1, s2, ⟨x, y, s3⟩, s4, s5, _⟩ c hc => by
    obtain ⟨o1, e1, f1, d1⟩ := s4.get
    obtain ⟨o2, e2, f2, d2⟩ := s5.get
    rcases in5 hc with rfl | rfl | rfl | rfl | rfl
    · exact ⟨_, s1, fun v q => nomatch q⟩
    · exact ⟨_, s2, fun v q => nomatch q⟩
    · exact ⟨_, s3, fun v q => nomatch q⟩
    · exact ⟨o1, e1, fun v q => by rw [d1] at q; cases q⟩
    · exact ⟨o2, e2, fun v q => by rw [d2] at q; cases q⟩
  keep := fun i h h' ⟨s1, s2, ⟨x, y, s3⟩, s4, s5, r⟩ st => ⟨st z (by simp) _ s1, st TI (by simp) _ s2, ⟨x, y, st TO (by simp) _ s3⟩, s4.keep fun o q => st i1 (by simp) o q, s5.keep fun o q => st i2 (by simp) o q, r⟩
  item := by
    rintro X rfl rfl rfl hc i pins s σ H E I hf ⟨s1, s2, ⟨x0, y0, s3⟩, s4, s5, S, hn1, hn2⟩ ⟨xs, ys, x, y, hqx, hqy, hx, hy⟩
    obtain ⟨its, rv, p, _⟩ := Inv.seqK I hqx
    obtain ⟨its2, rv2, p2, _⟩ := Inv.seqK I hqy
    obtain ⟨u, hu, ru⟩ := rv.get hx
    obtain ⟨u2, hu2, ru2⟩ := rv2.get hy
    have hh : X.A.in1.handled = none := I.ok.hd hc
    have l1 : i < its.toArray.size := by
      rw [List.size_toArray]
      exact (List.getElem?_eq_some_iff.mp hu).1
    have l2 : i < its2.toArray.size := by
      rw [List.size_toArray]
      exact (List.getElem?_eq_some_iff.mp hu2).1
    have hzl : z < s.heap.objs.size := Heap.lt_size s1
    refine wpAny_pyNext_zipD2_item S (draws_k hh k1 i1 a hn1 its.toArray) (draws_k hh k2 i2 b hn2 its2.toArray) s1 s2 s3 ⟨s4, p⟩ ⟨s5, p2⟩ l1 l2 fun w1 w2 h' tk hw1 hw2 z1 t1 st1 st2 hT hsz hk => ?_
    have q1 : its[i]? = some w1 := by simpa using hw1
    have q2 : its2[i]? = some w2 := by simpa using hw2
    rw [hu] at q1
    rw [hu2] at q2
    cases q1
    cases q2
    refine ⟨_, rfl, wpAny_letOwnedTupleGo_zip (s := { s with heap := h', toks := tk }) z1 fun h2 z2 sb => ?_⟩
    have back : ∀ c o, c ∉ [z, TI, TO, i1, i2] → s.heap.get? c = some o → h2.get? c = some o := fun c o hb q => (sb.2 c fun e => hb (by simp [e])).trans (hk c o (fun e => hb (by simp [e])) (fun e => hb (by simp [e])) (fun e => hb (by simp [e])) (fun e => hb (by simp [e])) q)
    have hT2 := (sb.2 _ (Nat.ne_of_gt hzl)).trans hT
    have okT : ObjOk X.prog X.w (upd H s.heap.objs.size (.tup [x, y])) h2 s.heap.objs.size (.tup [x, y]) := ⟨(by decide : 2 ≤ sizeLine), [u, u2], .cons ru (.cons ru2 .nil), _, hT2, rfl, _, rfl⟩
    have I2 := I.turnedNew (ch := [z, TI, TO, i1, i2]) (t' := tk) back hf (Nat.le_refl _) okT
    refine ⟨.ref s.heap.objs.size, _, I2, rfl, ⟨_, x, y, rfl, I.hok.fresh (Nat.le_refl _), rfl, fun l hl => by rw [Inv.seqK_inj I hl hqx]; exact hx, fun l hl => by rw [Inv.seqK_inj I hl hqy]; exact hy⟩, ⟨z2, ?_, ⟨u, u2, ?_⟩, ?_, ?_, S, hn1, hn2⟩, fun c hcm => ?_⟩
    · exact (sb.2 _ S.TIz).trans (hk _ _ S.TIz S.TITO S.TIi1 S.TIi2 s2)
    · exact (sb.2 _ S.TOz).trans t1
    · exact st1.1.keep fun o q => (sb.2 _ S.zi1.symm).trans q
    · exact st2.1.keep fun o q => (sb.2 _ S.zi2.symm).trans q
    · have hlt : c < s.heap.objs.size := by
        obtain ⟨o1, e1, _⟩ := s4.get
        obtain ⟨o2, e2, _⟩ := s5.get
        rcases in5 hcm with rfl | rfl | rfl | rfl | rfl
        · exact hzl
        · exact Heap.lt_size s2
        · exact Heap.lt_size s3
        · exact Heap.lt_size e1
        · exact Heap.lt_size e2
      rw [upd_ne (Nat.ne_of_lt hlt)]
      exact (hf c hcm).1
  done := by
    rintro X rfl rfl rfl hc i pins s σ H E I hf ⟨s1, s2, ⟨x0, y0, s3⟩, s4, s5, S, hn1, hn2⟩ ⟨xs, ys, hqx, hqy, hend⟩
    obtain ⟨its, rv, p, _⟩ := Inv.seqK I hqx
    obtain ⟨its2, rv2, p2, _⟩ := Inv.seqK I hqy
    have hh : X.A.in1.handled = none := I.ok.hd hc
    obtain ⟨n1, St1, D1, t1, g1, f1⟩ := draws_any (P := X.prog) (w := X.w) hh k1 i1 a hn1 its.toArray i s.heap s4 p
    obtain ⟨n2, St2, D2, t2, g2, f2⟩ := draws_any (P := X.prog) (w := X.w) hh k2 i2 b hn2 its2.toArray i s.heap s5 p2
    refine wpAny_pyNext_zipD2_end S D1 D2 s1 s2 s3 t1 t2 g1 g2 ?_ fun h' tk hk => ⟨rfl, I.turnedL (t' := tk) (ch := [z, TI, TO, i1, i2]) (fun c o hb q => hk c o (fun e => hb (by simp [e])) (fun e => hb (by simp [e])) (fun e => hb (by simp [e])) (fun e => hb (by simp [e])) q) hf⟩
    rcases hend with q | q
    · exact .inl (f1 (by rw [List.size_toArray, ← rv.length]; exact q))
    · exact .inr (f2 (by rw [List.size_toArray, ← rv2.length]; exact q))
  self := fun A i s Q E st h => wpAny_pyIter_zip st.1 h
omit [TabEnv] in
theorem one_lt {c a n : Nat} (h : c ∈ [a]) (q : a < n) : c < n := by
  obtain rfl : c = a := by simpa using h
  exact q
omit [TabEnv] in
def iZpK (K : PySem.W.Frag) (ta : TA) : TI := fun σ H R => ta σ H fun vs H1 => ∃ k1 k2 a b xs ys, vs = [.ref a, .ref b] ∧ SqK k1 K H1 a xs ∧ SqK k2 K H1 b ys ∧ R (ItZp k1 k2 K a b) H1
omit [TabEnv] in
theorem pi_zpK {X : Cx} {e e2 : Expr} {ta : TA} {p pos tpos : Pos} {elts : List Expr} {kk : Nat} (hg : Gl X "zip") (hm : X.mg "zip" = none) (ha : PA X [e, e2] ta) (hs : starEach [e, e2] X.env = (false, eval e X.env) :: starEach [e2] X.env := by rfl)
    (hpl : (backTo pos (starEach [e2] X.env)).any (·.1) = false := by rfl) : PI X (.Tuple elts kk tpos) (.Call (.Name "zip" p) [e, e2] [] pos) (iZpK X.K ta) := by
  refine ⟨fun pins s σ H R I h => PyProof.Rows.Call_ (ld_blt I hg hm PyProof.Rows.boot_zip (PyProof.Rows.callWith_type1 (thn (ha.run pos pins s σ H _ I h) fun us s1 ⟨vs, H1, I1, r1, q1⟩ => ?_) hs hpl))⟩
  obtain ⟨k1, k2, a, b, xs, ys, rfl, hqx, hqy, q⟩ := q1
  obtain ⟨u, u2, rfl, r, r2⟩ := vals2 r1
  cases (show u = Value.ref a from r)
  cases (show u2 = Value.ref b from r2)
  obtain ⟨its, rv, p', hal⟩ := Inv.seqK I1 hqx
  obtain ⟨its2, rv2, p2, hbl⟩ := Inv.seqK I1 hqy
  refine zip_begins2 (begins_k k1 a its.toArray) (begins_k k2 b its2.toArray) p' p2 fun h' z1 z2 z3 z4 z5 _ hk => wpAny_pyIter_zip z1 ?_
  have I2 : Inv X pins σ H1 { s1 with heap := h' } := I1.kept (t' := s1.toks) hk
  have S := zip_sep2 (N := s1.heap.objs.size) (fp1 := [a]) (fp2 := [b]) (fun c hc => one_lt hc hal) fun c hc => one_lt hc hbl
  refine ⟨s1.heap.objs.size + 4, [s1.heap.objs.size + 4, s1.heap.objs.size + 2, s1.heap.objs.size + 3, s1.heap.objs.size, s1.heap.objs.size + 1], _, _, H1, rfl, I2, turn_zp k1 k2 a b _ _ _ _ _, ⟨z1, z2, ⟨_, _, z3⟩, ItK.new z4, ItK.new z5, S, Nat.ne_of_lt hal, Nat.ne_of_lt (Nat.lt_succ_of_lt hbl)⟩, fun c hc => ?_, q⟩
  have hle : s1.heap.objs.size ≤ c := by
    rcases in5 hc with rfl | rfl | rfl | rfl | rfl <;> first | exact Nat.le_add_right _ _ | exact Nat.le_refl _
  exact I1.fpOk hle (I1.hok.fresh hle)
/-! ### the images -/
omit [TabEnv] in
def seqKD : D → Option (List D)
  | .lst es => some es
  | .scr es => some es
  | .tup es => some es
  | _ => none
omit [TabEnv] in
theorem seqK_at {K : PySem.W.Frag} {F : Hp} {μ : List Addr} {v : V} {d : D} {es : List D} (r : Rep K F μ v d) (e : seqKD d = some es) : ∃ k a vs, v = .ref a ∧ SqK k K F a vs ∧ Reps K F μ vs es := by
  cases r with
  | lst h r => cases e; exact ⟨false, _, _, rfl, .of h, r⟩
  | scr h r => cases e; exact ⟨false, _, _, rfl, h, r⟩
  | tup h r => cases e; exact ⟨true, _, _, rfl, h, r⟩
  | _ => cases e
omit [TabEnv] in
theorem SqK.same {k : Bool} {K : PySem.W.Frag} {F H : Hp} {a : Addr} {vs : List V} (s : Same F H) (h : SqK k K F a vs) : SqK k K H a vs := by
  cases k with
  | true => exact Same.seqT s (show SqT K F a vs from h)
  | false => exact s.seq (show SqL K F a vs from h)
omit [TabEnv] in
theorem wk_en {k : Bool} {K : PySem.W.Frag} {F : Hp} {μ : List Addr} {a : Addr} {vs : List V} {ds : List D} (h : SqK k K F a vs) (r : Reps K F μ vs ds) : Wk K F μ (ItEn k K a) (enuD ds) where
  go := fun i H s hi => by
    have hi : i < vs.length := by rw [r.length]; simpa [enuD] using hi
    exact ⟨vs, vs[i], h.same s, List.getElem?_eq_getElem hi⟩
  stop := fun i H s hi => ⟨vs, h.same s, by rw [r.length]; simpa [enuD] using hi⟩
  yld := fun i H v H' s hi ⟨T, x, e1, e2, e3, y⟩ => by
    have hi : i < ds.length := by simpa [enuD] using hi
    obtain ⟨d, e4, r1⟩ := r.getV (y vs (h.same s))
    refine ⟨_, ?_, .inr ⟨T, _, _, e2, e3, e1, rfl, .cons (.v (.int (i : Nat))) (.cons r1 .nil)⟩⟩
    unfold enuD
    rw [List.getElem?_map, List.getElem?_range hi]
    simp [List.getD, e4]
omit [TabEnv] in
theorem wk_zp {k1 k2 : Bool} {K : PySem.W.Frag} {F : Hp} {μ : List Addr} {a b : Addr} {vs ws : List V} {ds es : List D} (h : SqK k1 K F a vs) (h' : SqK k2 K F b ws) (r : Reps K F μ vs ds) (r' : Reps K F μ ws es) : Wk K F μ (ItZp k1 k2 K a b) ((ds.zip es).map fun p => .tup [p.1, p.2]) where
  go := fun i H s hi => by
    have hi : i < ds.length ∧ i < es.length := by simpa [Nat.lt_min] using hi
    have h1 : i < vs.length := by rw [r.length]; exact hi.1
    have h2 : i < ws.length := by rw [r'.length]; exact hi.2
    exact ⟨vs, ws, vs[i], ws[i], h.same s, h'.same s, List.getElem?_eq_getElem h1, List.getElem?_eq_getElem h2⟩
  stop := fun i H s hi => ⟨vs, ws, h.same s, h'.same s, by
    rw [r.length, r'.length]
    simp at hi
    omega⟩
  yld := fun i H v H' s hi ⟨T, x, y, e1, e2, e3, y1, y2⟩ => by
    obtain ⟨d1, e4, r1⟩ := r.getV (y1 vs (h.same s))
    obtain ⟨d2, e5, r2⟩ := r'.getV (y2 ws (h'.same s))
    refine ⟨.tup [d1, d2], ?_, .inr ⟨T, _, _, e2, e3, e1, rfl, .cons r1 (.cons r2 .nil)⟩⟩
    have e6 : (ds.zip es)[i]? = some (d1, d2) := List.getElem?_zip_eq_some.mpr ⟨e4, e5⟩
    rw [List.getElem?_map, e6]
    rfl
omit [TabEnv] in
def enKX (ds : List D) : M (List D) := match ds with
  | [d] => match seqKD d with
    | some es => M.pure (enuD es)
    | none => M.no
  | _ => M.no
omit [TabEnv] in
def zpKX (ds : List D) : M (List D) := match ds with
  | [d, e] => match seqKD d, seqKD e with
    | some es, some fs => M.pure ((es.zip fs).map fun p => .tup [p.1, p.2])
    | _, _ => M.no
  | _ => M.no
section
variable {X : Cx} {W : WX}
theorem id_enK {K : PySem.W.Frag} {a : Expr} {ta : TA} {p pos tpos : Pos} {elts : List Expr} {kk : Nat} {da : M (List D)} (hg : Gl X "enumerate") (hm : X.mg "enumerate" = none) (ha : AD X W [a] ta da) (hs : starEach [a] X.env = [(false, eval a X.env)] := by rfl) (hK : X.K = K := by rfl) :
    ID X W (.Tuple elts kk tpos) (.Call (.Name "enumerate" p) [a] [] pos) (iEnK K ta) (M.bind da enKX) := by
  subst hK
  exact ⟨pi_enK hg hm ha.pa hs, fun Z F μ c σ H P R p => ha.ev Z F μ c σ H _ R (p.bind.imp fun ds c1 F1 μ1 H1 l1 R1 p1 vs rs => by
    unfold enKX at p1
    split at p1
    · next d =>
      cases he : seqKD d with
      | none => rw [he] at p1; exact p1.elim
      | some es =>
        rw [he] at p1
        cases rs with
        | cons r rs =>
          cases rs
          obtain ⟨k, a, vs, rfl, q, r⟩ := seqK_at r he
          exact ⟨k, a, vs, rfl, q.same R1.ex, p1 F1 μ1 H1 (Le.refl _ _) R1 _ (wk_en q r)⟩
    · exact p1.elim)⟩
theorem id_zpK {K : PySem.W.Frag} {a b : Expr} {ta : TA} {p pos tpos : Pos} {elts : List Expr} {kk : Nat} {da : M (List D)} (hg : Gl X "zip") (hm : X.mg "zip" = none) (ha : AD X W [a, b] ta da) (hs : starEach [a, b] X.env = (false, eval a X.env) :: starEach [b] X.env := by rfl)
    (hpl : (backTo pos (starEach [b] X.env)).any (·.1) = false := by rfl) (hK : X.K = K := by rfl) : ID X W (.Tuple elts kk tpos) (.Call (.Name "zip" p) [a, b] [] pos) (iZpK K ta) (M.bind da zpKX) := by
  subst hK
  exact ⟨pi_zpK hg hm ha.pa hs hpl, fun Z F μ c σ H P R p => ha.ev Z F μ c σ H _ R (p.bind.imp fun ds c1 F1 μ1 H1 l1 R1 p1 vs rs => by
    unfold zpKX at p1
    split at p1
    · next d e =>
      cases he : seqKD d with
      | none => rw [he] at p1; exact p1.elim
      | some es =>
       cases hf : seqKD e with
       | none => rw [he, hf] at p1; exact p1.elim
       | some fs =>
        rw [he, hf] at p1
        cases rs with
        | cons r rs =>
          cases rs with
          | cons r' rs =>
            cases rs
            obtain ⟨k1, a, vs, rfl, q, r⟩ := seqK_at r he
            obtain ⟨k2, b, ws, rfl, q', r'⟩ := seqK_at r' hf
            exact ⟨k1, k2, a, b, vs, ws, rfl, q.same R1.ex, q'.same R1.ex, p1 F1 μ1 H1 (Le.refl _ _) R1 _ (wk_zp q q' r r')⟩
    · exact p1.elim)⟩
end
end My

set_option Elab.async false
set_option linter.all false
set_option maxRecDepth 100000
set_option maxHeartbeats 4000000
/-! F24: isinstance by a table of classes; defs that call themselves. -/
namespace My
open PySem L2
variable [TabEnv]
omit [TabEnv] in
def gIsOT (tbl : List (Addr × Bool)) : D → M D := fun x c => match ownA c x with
  | some C => match tbl.lookup C with
    | some b => .ok (.v (.bl b)) c
    | none => .no
  | none => .no
omit [TabEnv] in
theorem mem_lookB {L : List (Addr × Bool)} {C : Addr} {g : Bool} (h : L.lookup C = some g) : (C, g) ∈ L := by
  induction L with
  | nil => cases h
  | cons p L ih =>
    obtain ⟨k, b⟩ := p
    rw [List.lookup_cons] at h
    split at h
    · next e =>
      cases h
      have : C = k := by simpa using e
      subst this
      exact List.mem_cons_self
    · exact List.mem_cons_of_mem _ (ih h)
omit [TabEnv] in
theorem ownA_ins {c : Stt} {x : D} {C : Addr} (hC : ownA c x = some C) : ∃ fs, insD c C x = some fs := by
  unfold ownA at hC
  split at hC
  · next n =>
    split at hC
    · next C3 fs hs =>
      cases hC
      refine ⟨fs, ?_⟩
      unfold insD
      dsimp only
      rw [hs]
      exact if_pos rfl
    · cases hC
  · cases hC
section
variable {X : Cx} {W : WX} {a : Expr} {pos : Pos}
theorem dd_isiT {K : PySem.W.Frag} {tbl : List (Addr × Bool)} {x : Str} {C : Addr} {ta : TE} {p q : Pos} {dx : M D} (hg : Gl X "isinstance") (hm : X.mg "isinstance" = none) (hv : bootBuiltins "isinstance" = some (.builtin "isinstance")) (ha : DD X W a ta dx) (hg2 : Gl X x) (hm2 : X.mg x = some (.ref C)) (hT : ∀ e ∈ tbl, ClsI K e.1 ∧ PySem.W.kitOne K (.ref e.1) (.ref C) = some e.2)
    (hs : starEach [a, .Name x q] X.env = (false, eval a X.env) :: starEach [.Name x q] X.env := by rfl) (hs2 : starEach [.Name x q] X.env = (false, eval (.Name x q) X.env) :: starEach [] X.env := by rfl) (hdb : (x == ("__debug__" : Str)) = false := by decide)
    (he : starEach [a, .Name x q] X.env = (false, eval a X.env) :: starEach [.Name x q] X.env := by rfl) (hpl : (backTo pos (starEach [.Name x q] X.env)).any (·.1) = false := by rfl) (hK : X.K = K := by rfl) :
    DD X W (.Call (.Name "isinstance" p) [a, .Name x q] [] pos) (tCB (rIsi K) (tCons ta (tCons (tC (.ref C)) tNil))) (M.bind dx (gIsOT tbl)) := by
  subst hK
  refine ⟨pe_callB call_isi hg hm hv (pa_cons ha.pe (pa_cons (pe_glob hg2 hm2 rfl hdb) pa_nil hs2) hs) (by decide) (by decide) he hpl, fun Z F μ c σ H Q R p => ha.ev Z F μ c σ H _ R (p.bind.imp fun x c1 F1 μ1 H1 l1 R1 p1 v1 r1 => ?_)⟩
  unfold gIsOT at p1
  cases hC : ownA c1 x with
  | none => rw [hC] at p1; exact p1.elim
  | some C2 =>
    rw [hC] at p1
    dsimp only at p1
    cases hL : tbl.lookup C2 with
    | none => rw [hL] at p1; exact p1.elim
    | some b =>
      rw [hL] at p1
      obtain ⟨ci, hk⟩ := hT _ (mem_lookB hL)
      obtain ⟨fs, hfs⟩ := ownA_ins hC
      obtain ⟨a, dx, gs, n, rfl, rfl, hn, hs, hh, k, rs⟩ := ins_at R1 r1 hfs
      exact ⟨.ref a, .ref C, .ref C2, .ref C, b, rfl, .own C, .base (.ins hh ci.cl ci.ha ci.hn ci.htk ci.hm), hk, p1 F1 μ1 H1 (Le.refl _ _) R1 _ (.v _)⟩
end
/-- a def that nobody may rely on -/
theorem okf_no {P : Program} {w : World} {K : PySem.W.Frag} {mg : Str → Option Value} {base : Heap} {x qual : Str} {st : Stmt} {ps : List Str} {k : Nat} (h : Has K mg x qual st ps) : Okf P w K mg base k x ps (fun _ _ => .no) := by
  obtain ⟨f, fd, F, hm, hb⟩ := h
  exact ⟨f, fd, ⟨fun vs H Q E ⟨_, _, _, _, _, _, _, p⟩ => p.elim, fun A outer s H args us vs Q E _ _ _ _ ⟨_, _, _, _, _, _, _, p⟩ => p.elim⟩, hm, F.kp, hb⟩
/-! ### xs + ys, a list of one's own -/
omit [TabEnv] in
def dCatN (da db : M O) : M (List D) := M.bind da fun a => M.bind db fun b c => match lstD c a with
  | some ds => match lstD c b with
    | some es => if ds.length + es.length ≤ 1000000 then .ok (ds ++ es) c else .no
    | none => .no
  | none => .no
section
variable {X : Cx} {W : WX} {a b : Expr} {pos : Pos} {ta tb : TE}
theorem en_cat {da db : M O} (ha : ED X W a ta da) (hb : ED X W b tb db) : EN X W (.BinOp a .Add b pos) (tOp rCat ta tb) (dCatN da db) := by
  refine ⟨pe_op op_cat ha.pe hb.pe, fun Z F μ c σ H Q R p => ha.ev Z F μ c σ H _ R (p.bind.imp fun o c1 F1 μ1 H1 l1 R1 p1 v1 r1 => hb.ev Z F1 μ1 c1 σ H1 _ R1 (p1.bind.imp fun o2 c2 F2 μ2 H2 l2 R2 p2 v2 r2 => ?_))⟩
  cases e1 : lstD c2 o with
  | none => rw [e1] at p2; exact p2.elim
  | some ds =>
    rw [e1] at p2
    dsimp only at p2
    cases e2 : lstD c2 o2 with
    | none => rw [e2] at p2; exact p2.elim
    | some es =>
      rw [e2] at p2
      dsimp only at p2
      split at p2
      · next hz =>
        obtain ⟨l, vs, rfl, h1, q1⟩ := lst_at R2 (r1.mono l2) e1
        obtain ⟨m, ws, rfl, h2, q2⟩ := lst_at R2 r2 e2
        refine ⟨l, m, vs, ws, rfl, rfl, h1, h2, by rw [q1.length, q2.length]; exact small6 hz, fun q hq => ?_⟩
        exact p2 F2 μ2 _ (Le.refl _ _) (R2.up (same_new hq)) q _ upd_same (R2.nob hq) (Reps.append q1 q2)
      · exact p2.elim
end
/-! ### str(..) of ints and texts -/
omit [TabEnv] in
def gStrA : O → M D := fun a c => match a with
  | .d (.v (.str x)) => .ok (.v (.str x)) c
  | a => gStr1 a c
omit [TabEnv] in
def rStrB : List V → Hp → VK → Prop := fun xs H Q => (∃ a, xs = [.str a] ∧ Q (.str a) H) ∨ rStrA xs H Q
section
variable {X : Cx} {W : WX}
omit [TabEnv] in
theorem call_strB : CallR X (.type "str") rStrB := by
  intro pins s σ H xs us Q I r h
  rcases h with h | h
  · exact SkE.call_str_str pins s σ H xs us Q I r h
  · exact call_str_int pins s σ H xs us Q I r h
theorem c1_strB {K : PySem.W.Frag} : C1S K W rStrB gStrA := fun Z F μ c σ H Q x a R rx p => by
  unfold gStrA at p
  split at p
  · next z =>
    cases rx with
    | d rx =>
      cases rx
      exact .inl ⟨z, rfl, p F μ H (Le.refl _ _) R _ (.v _)⟩
  · exact .inr (c1_str Z F μ c σ H Q x a R rx p)
theorem bStrA : B1 X W (.type "str") rStrB gStrA := ⟨call_strB, c1_strB⟩
end
end My

set_option Elab.async false
set_option linter.all false
set_option maxRecDepth 100000
set_option maxHeartbeats 4000000
/-! T02: stations as plain data, their words and their texts. -/
namespace My
open PySem L2
abbrev sD (x : Str) : D := .v (.str x)
def Ss (ts : List Str) : List D := ts.map fun p => D.v (V.str p)
theorem vsD_Ss : ∀ ts : List Str, vsD (Ss ts) = some (ts.map V.str)
  | [] => rfl
  | t :: ts => by
    show (if flatV (V.str t) = true then (vsD (Ss ts)).map (V.str t :: ·) else none) = _
    rw [vsD_Ss ts]
    rfl
theorem inV_Ss (p : Str) (ts : List Str) : inV (.str p) (ts.map V.str) = decide (p ∈ ts) := by
  unfold inV
  rw [List.any_map, Bool.eq_iff_iff]
  simp only [List.any_eq_true, Function.comp, decide_eq_true_eq]
  constructor
  · rintro ⟨x, hx, e⟩
    obtain rfl : x = p := by simpa using (show (x == p) = true from e)
    exact hx
  · intro h
    exact ⟨p, h, show (p == p) = true from beq_self_eq_true p⟩
/-- numbers as words -/
def nt (i : Int) : Str := toString i
theorem nt_len {i : Int} (h : 0 ≤ i ∧ i ≤ 9999) : (nt i).length ≤ 5 := by
  unfold nt
  rw [ofString_length]
  have := int_text_length_le10 (a := i) (k := 4) (by decide) (by omega)
  omega
theorem nt_sign (i : Int) : ∀ c ∈ (nt i).cps.toList, (48 ≤ c ∧ c ≤ 57) ∨ c = 45 := by
  intro c hc
  have e : (nt i).cps.toList = (toString i).toList.map Char.toNat := by
    exact PyProof.Rows.signs_ofString (toString i)
  rw [e] at hc
  obtain ⟨ch, h1, rfl⟩ := List.mem_map.mp hc
  rcases PyProof.Rows.int_sign i ch h1 with h | h
  · exact .inl (PyProof.Rows.digit_range h)
  · subst h
    exact .inr rfl
/-- words that stand by themselves -/
def nw (w : Str) : Prop := w ≠ (Str.ofString ".") ∧ w ≠ (Str.ofString ",")
instance (w : Str) : Decidable (nw w) := by
  unfold nw
  infer_instance
theorem nt_nw (i : Int) : nw (nt i) := by
  constructor
  · intro e
    have := nt_sign i 46 (by rw [e]; decide +kernel)
    omega
  · intro e
    have := nt_sign i 44 (by rw [e]; decide +kernel)
    omega
def gap (w : Str) : Str := if w = (Str.ofString ".") ∨ w = (Str.ofString ",") then (Str.ofString "") else (Str.ofString " ")
theorem gap_nw {w : Str} (h : nw w) : gap w = (Str.ofString " ") := if_neg fun z => z.elim h.1 h.2
/-- the words behind, with blanks -/
def sp : List Str → Str
  | [] => (Str.ofString "")
  | w :: ws => gap w ++ w ++ sp ws
def glue : Str → List Str → Str
  | acc, [] => acc
  | acc, w :: ws => glue (acc ++ gap w ++ w) ws
theorem e_app (a : Str) : (Str.ofString "") ++ a = a := Str.empty_append a
theorem app_e (a : Str) : a ++ (Str.ofString "") = a := Str.append_empty a
theorem glue_sp : ∀ (ws : List Str) (acc : Str), glue acc ws = acc ++ sp ws
  | [], acc => (app_e acc).symm
  | w :: ws, acc => by
    show glue (acc ++ gap w ++ w) ws = _
    rw [glue_sp ws]
    show _ = acc ++ (gap w ++ w ++ sp ws)
    simp only [Str.append_assoc]
theorem sp_app : ∀ (a b : List Str), sp (a ++ b) = sp a ++ sp b
  | [], b => (e_app _).symm
  | w :: a, b => by
    show gap w ++ w ++ sp (a ++ b) = gap w ++ w ++ sp a ++ sp b
    rw [sp_app a b]
    simp only [Str.append_assoc]
/-- pieces with blanks -/
def bl : List Str → Str
  | [] => (Str.ofString "")
  | w :: ws => (Str.ofString " ") ++ w ++ bl ws
theorem bl_app : ∀ (a b : List Str), bl (a ++ b) = bl a ++ bl b
  | [], b => (e_app _).symm
  | w :: a, b => by
    show (Str.ofString " ") ++ w ++ bl (a ++ b) = (Str.ofString " ") ++ w ++ bl a ++ bl b
    rw [bl_app a b]
    simp only [Str.append_assoc]
theorem sp_nw : ∀ {ws : List Str}, (∀ w ∈ ws, nw w) → sp ws = bl ws
  | [], _ => rfl
  | w :: ws, h => by
    show gap w ++ w ++ sp ws = (Str.ofString " ") ++ w ++ bl ws
    rw [gap_nw (h w List.mem_cons_self), sp_nw fun x hx => h x (List.mem_cons_of_mem _ hx)]
theorem join_bl : ∀ (x : Str) (xs : List Str), Str.join (Str.ofString " ") (x :: xs) = x ++ bl xs
  | x, [] => (app_e x).symm
  | x, y :: ys => by
    show x ++ (Str.ofString " ") ++ Str.join (Str.ofString " ") (y :: ys) = x ++ ((Str.ofString " ") ++ y ++ bl ys)
    rw [join_bl y ys]
    simp only [Str.append_assoc]
def cm (ts : List Str) : List Str := ts.flatMap fun x => [(Str.ofString ","), x]
theorem gap_c : gap (Str.ofString ",") = (Str.ofString "") := if_pos (.inr rfl)
theorem gap_p : gap (Str.ofString ".") = (Str.ofString "") := if_pos (.inl rfl)
theorem c_b : (Str.ofString ",") ++ (Str.ofString " ") = (Str.ofString ", ") := by decide +kernel
theorem join_cm : ∀ (t : Str) (ts : List Str), (∀ w ∈ ts, nw w) → Str.join (Str.ofString ", ") (t :: ts) = t ++ sp (cm ts)
  | t, [], _ => (app_e t).symm
  | t, y :: ys, h => by
    show t ++ (Str.ofString ", ") ++ Str.join (Str.ofString ", ") (y :: ys) = t ++ (gap (Str.ofString ",") ++ (Str.ofString ",") ++ (gap y ++ y ++ sp (cm ys)))
    rw [join_cm y ys fun w hw => h w (List.mem_cons_of_mem _ hw), gap_c, gap_nw (h y List.mem_cons_self), ← c_b, e_app]
    simp only [Str.append_assoc]
/-- one rest, as it is told -/
def rt1 (p : Int × Int) : List Str := [nt p.1, (Str.ofString "to"), nt p.2]
def rtx (p : Int × Int) : Str := Str.join (Str.ofString " to ") [nt p.1, nt p.2]
theorem to_b : (Str.ofString " ") ++ (Str.ofString "to") ++ (Str.ofString " ") = (Str.ofString " to ") := by decide +kernel
theorem nw_to : nw (Str.ofString "to") := by decide +kernel
theorem rt_sp (p : Int × Int) : sp (rt1 p) = (Str.ofString " ") ++ rtx p := by
  show gap (nt p.1) ++ nt p.1 ++ (gap (Str.ofString "to") ++ (Str.ofString "to") ++ (gap (nt p.2) ++ nt p.2 ++ (Str.ofString ""))) = (Str.ofString " ") ++ (nt p.1 ++ (Str.ofString " to ") ++ nt p.2)
  rw [gap_nw (nt_nw _), gap_nw (nt_nw _), gap_nw nw_to, ← to_b, app_e]
  simp only [Str.append_assoc]
def rsW : List (Int × Int) → List Str
  | [] => []
  | p :: rs => (Str.ofString "rests") :: rt1 p ++ rs.flatMap fun p => (Str.ofString ",") :: rt1 p
theorem rs_cm : ∀ (p : Int × Int) (rs : List (Int × Int)), Str.join (Str.ofString ", ") ((p :: rs).map rtx) = rtx p ++ sp (rs.flatMap fun p => (Str.ofString ",") :: rt1 p)
  | p, [] => (app_e _).symm
  | p, q :: rs => by
    show rtx p ++ (Str.ofString ", ") ++ Str.join (Str.ofString ", ") ((q :: rs).map rtx) = rtx p ++ sp (((Str.ofString ",") :: rt1 q) ++ rs.flatMap fun p => (Str.ofString ",") :: rt1 p)
    rw [rs_cm q rs, sp_app]
    show _ = rtx p ++ (gap (Str.ofString ",") ++ (Str.ofString ",") ++ sp (rt1 q) ++ _)
    rw [rt_sp, gap_c, ← c_b, e_app]
    simp only [Str.append_assoc]
/-- a station as it is told -/
inductive Sta where
  | pool (n : Str) (z : Int)
  | doorA (n : Str) (r : Int) (ts : List Int) (t : Str)
  | doorD (n : Str) (r a b c d e : Int) (t : Str)
  | way (n : Str) (z : Int) (t : Str)
  | desk (n : Str) (h : Int) (ts : List Int) (k : Bool) (rs : List (Int × Int)) (t : Str)
  | opens (n : Str) (a b : Int) (t : Str)
  | below (n : Str) (a : Int) (o t : Str)
  | fork (n r t : Str) (ts : List Str)
  | lend (n p t : Str)
  | give (n p t : Str)
  | exit (n : Str)
def pD (p : Int × Int) : D := .tup [.v (.int p.1), .v (.int p.2)]
def Sta.row : Sta → List D
  | .pool n z => [sD (Str.ofString "pool"), sD n, .v (.int z)]
  | .doorA n r ts t => [sD (Str.ofString "door"), sD n, .v (.int r), .tup [sD (Str.ofString "at"), .tup (ts.map I)], sD t]
  | .doorD n r a b c d e t => [sD (Str.ofString "door"), sD n, .v (.int r), .tup [sD (Str.ofString "draws"), .v (.int a), .v (.int b), .v (.int c), .v (.int d), .v (.int e)], sD t]
  | .way n z t => [sD (Str.ofString "way"), sD n, .v (.int z), sD t]
  | .desk n h ts k rs t => [sD (Str.ofString "desk"), sD n, .v (.int h), .tup (ts.map I), .v (.bl k), .tup (rs.map pD), sD t]
  | .opens n a b t => [sD (Str.ofString "gate"), sD n, .tup [sD (Str.ofString "opens"), .v (.int a), .v (.int b)], sD t]
  | .below n a o t => [sD (Str.ofString "gate"), sD n, .tup [sD (Str.ofString "below"), .v (.int a), sD o], sD t]
  | .fork n r t ts => [sD (Str.ofString "fork"), sD n, sD r, .tup (Ss (t :: ts))]
  | .lend n p t => [sD (Str.ofString "lend"), sD n, sD p, sD t]
  | .give n p t => [sD (Str.ofString "give"), sD n, sD p, sD t]
  | .exit n => [sD (Str.ofString "exit"), sD n]
def Sta.kind : Sta → Str
  | .pool _ _ => (Str.ofString "pool")
  | .doorA _ _ _ _ => (Str.ofString "door")
  | .doorD _ _ _ _ _ _ _ _ => (Str.ofString "door")
  | .way _ _ _ => (Str.ofString "way")
  | .desk _ _ _ _ _ _ => (Str.ofString "desk")
  | .opens _ _ _ _ => (Str.ofString "gate")
  | .below _ _ _ _ => (Str.ofString "gate")
  | .fork _ _ _ _ => (Str.ofString "fork")
  | .lend _ _ _ => (Str.ofString "lend")
  | .give _ _ _ => (Str.ofString "give")
  | .exit _ => (Str.ofString "exit")
def Sta.name : Sta → Str
  | .pool n _ => n
  | .doorA n _ _ _ => n
  | .doorD n _ _ _ _ _ _ _ => n
  | .way n _ _ => n
  | .desk n _ _ _ _ _ => n
  | .opens n _ _ _ => n
  | .below n _ _ _ => n
  | .fork n _ _ _ => n
  | .lend n _ _ => n
  | .give n _ _ => n
  | .exit n => n
def rkW (r : Int) : List Str := if 0 < r then [(Str.ofString "rank"), nt r] else []
/-- the words behind the name, without the point -/
def Sta.wds : Sta → List Str
  | .pool n z => [(Str.ofString "holds"), nt z]
  | .doorA n r ts t => rkW r ++ (Str.ofString "at") :: ts.map nt ++ [(Str.ofString "then"), t]
  | .doorD n r a b c d e t => rkW r ++ [(Str.ofString "draws"), nt a, (Str.ofString "upto"), nt b, (Str.ofString "gaps"), nt c, (Str.ofString "to"), nt d, (Str.ofString "from"), nt e, (Str.ofString "then"), t]
  | .way n z t => [(Str.ofString "takes"), nt z, (Str.ofString "then"), t]
  | .desk n h ts k rs t => [(Str.ofString "hands"), nt h, (Str.ofString "takes")] ++ ts.map nt ++ (if k then [(Str.ofString "ranked")] else []) ++ rsW rs ++ [(Str.ofString "then"), t]
  | .opens n a b t => [(Str.ofString "opens"), nt a, (Str.ofString "for"), nt b, (Str.ofString "then"), t]
  | .below n a o t => [(Str.ofString "below"), nt a, (Str.ofString "at"), o, (Str.ofString "then"), t]
  | .fork n r t ts => [(Str.ofString "by"), r, (Str.ofString "then"), t] ++ cm ts
  | .lend n p t => [(Str.ofString "of"), p, (Str.ofString "then"), t]
  | .give n p t => [(Str.ofString "of"), p, (Str.ofString "then"), t]
  | .exit n => []
/-- the pieces behind the name -/
def Sta.pcs : Sta → List Str
  | .fork n r t ts => [(Str.ofString "by"), r, (Str.ofString "then"), Str.join (Str.ofString ", ") (t :: ts)]
  | .desk n h ts k rs t => [(Str.ofString "hands"), nt h, (Str.ofString "takes")] ++ ts.map nt ++ (if k then [(Str.ofString "ranked")] else []) ++ (if rs = [] then [] else [(Str.ofString "rests"), Str.join (Str.ofString ", ") (rs.map rtx)]) ++ [(Str.ofString "then"), t]
  | s => s.wds
def Sta.text (s : Sta) : Str := Str.join (Str.ofString " ") (s.kind :: s.name :: s.pcs) ++ (Str.ofString ".")
/-- a name of the law's -/
def gw (x : Str) : Prop := nw x ∧ x.length ≤ 8
def gi (i : Int) : Prop := 0 ≤ i ∧ i ≤ 9999
def Sta.ok : Sta → Prop
  | .pool n z => gw n ∧ gi z
  | .doorA n r ts t => gw n ∧ gi r ∧ (∀ i ∈ ts, gi i) ∧ ts.length ≤ 12 ∧ gw t
  | .doorD n r a b c d e t => gw n ∧ gi r ∧ gi a ∧ gi b ∧ gi c ∧ gi d ∧ gi e ∧ gw t
  | .way n z t => gw n ∧ gi z ∧ gw t
  | .desk n h ts k rs t => gw n ∧ gi h ∧ (∀ i ∈ ts, gi i) ∧ ts.length ≤ 4 ∧ (∀ p ∈ rs, gi p.1 ∧ gi p.2) ∧ rs.length ≤ 3 ∧ gw t
  | .opens n a b t => gw n ∧ gi a ∧ gi b ∧ gw t
  | .below n a o t => gw n ∧ gi a ∧ gw o ∧ gw t
  | .fork n r t ts => gw n ∧ gw r ∧ gw t ∧ (∀ w ∈ ts, gw w) ∧ ts.length ≤ 3
  | .lend n p t => gw n ∧ gw p ∧ gw t
  | .give n p t => gw n ∧ gw p ∧ gw t
  | .exit n => gw n
theorem nws {ws : List Str} (h : ws.all (fun w => decide (nw w)) = true) : ∀ w ∈ ws, nw w := fun w hw => by
  have := List.all_eq_true.mp h w hw
  exact of_decide_eq_true this
theorem Wd0 : nw (Str.ofString "pool") ∧ nw (Str.ofString "door") ∧ nw (Str.ofString "way") ∧ nw (Str.ofString "desk") ∧ nw (Str.ofString "gate") ∧ nw (Str.ofString "fork") ∧ nw (Str.ofString "lend") ∧ nw (Str.ofString "give") ∧ nw (Str.ofString "exit") ∧ nw (Str.ofString "holds") ∧ nw (Str.ofString "rank") ∧ nw (Str.ofString "at") ∧ nw (Str.ofString "draws") ∧ nw (Str.ofString "upto") ∧ nw (Str.ofString "gaps") ∧ nw (Str.ofString "from") ∧ nw (Str.ofString "then") ∧ nw (Str.ofString "takes") ∧ nw (Str.ofString "hands") ∧ nw (Str.ofString "ranked") ∧ nw (Str.ofString "rests") ∧ nw (Str.ofString "opens") ∧ nw (Str.ofString "for") ∧ nw (Str.ofString "below") ∧ nw (Str.ofString "by") ∧ nw (Str.ofString "of") := by decide +kernel
theorem mem_nts {ts : List Int} : ∀ w ∈ ts.map nt, nw w := fun w hw => by
  obtain ⟨i, _, rfl⟩ := List.mem_map.mp hw
  exact nt_nw i
theorem cons_nw {w : Str} {ws : List Str} (h : nw w) (t : ∀ x ∈ ws, nw x) : ∀ x ∈ w :: ws, nw x := fun x hx => by
  rcases List.mem_cons.mp hx with rfl | hx
  · exact h
  · exact t x hx
theorem app_nw {a b : List Str} (h : ∀ x ∈ a, nw x) (t : ∀ x ∈ b, nw x) : ∀ x ∈ a ++ b, nw x := fun x hx => by
  rcases List.mem_append.mp hx with hx | hx
  · exact h x hx
  · exact t x hx
theorem nil_nw : ∀ x ∈ ([] : List Str), nw x := fun x hx => by cases hx
theorem rk_nw (r : Int) : ∀ x ∈ rkW r, nw x := by
  unfold rkW
  obtain ⟨_, _, _, _, _, _, _, _, _, _, h, _⟩ := Wd0
  split
  · exact cons_nw h (cons_nw (nt_nw r) nil_nw)
  · exact nil_nw
theorem wds_pcs {s : Sta} (h : s.ok) : sp s.wds = bl s.pcs := by
  obtain ⟨w1, w2, w3, w4, w5, w6, w7, w8, w9, w10, w11, w12, w13, w14, w15, w16, w17, w18, w19, w20, w21, w22, w23, w24, w25, w26⟩ := Wd0
  cases s with
  | pool n z => exact sp_nw (cons_nw w10 (cons_nw (nt_nw z) nil_nw))
  | doorA n r ts t => exact sp_nw (app_nw (app_nw (rk_nw r) (cons_nw w12 mem_nts)) (cons_nw w17 (cons_nw h.2.2.2.2.1 nil_nw)))
  | doorD n r a b c d e t => exact sp_nw (app_nw (rk_nw r) (cons_nw w13 (cons_nw (nt_nw a) (cons_nw w14 (cons_nw (nt_nw b) (cons_nw w15 (cons_nw (nt_nw c) (cons_nw nw_to (cons_nw (nt_nw d) (cons_nw w16 (cons_nw (nt_nw e) (cons_nw w17 (cons_nw h.2.2.2.2.2.2.2.1 nil_nw)))))))))))))
  | way n z t => exact sp_nw (cons_nw w18 (cons_nw (nt_nw z) (cons_nw w17 (cons_nw h.2.2.1 nil_nw))))
  | opens n a b t => exact sp_nw (cons_nw w22 (cons_nw (nt_nw a) (cons_nw w23 (cons_nw (nt_nw b) (cons_nw w17 (cons_nw h.2.2.2.1 nil_nw))))))
  | below n a o t => exact sp_nw (cons_nw w24 (cons_nw (nt_nw a) (cons_nw w12 (cons_nw h.2.2.1.1 (cons_nw w17 (cons_nw h.2.2.2.1 nil_nw))))))
  | lend n p t => exact sp_nw (cons_nw w26 (cons_nw h.2.1.1 (cons_nw w17 (cons_nw h.2.2.1 nil_nw))))
  | give n p t => exact sp_nw (cons_nw w26 (cons_nw h.2.1.1 (cons_nw w17 (cons_nw h.2.2.1 nil_nw))))
  | exit n => rfl
  | fork n r t ts =>
    show sp ([(Str.ofString "by"), r, (Str.ofString "then"), t] ++ cm ts) = bl [(Str.ofString "by"), r, (Str.ofString "then"), Str.join (Str.ofString ", ") (t :: ts)]
    rw [sp_app, join_cm t ts fun w hw => (h.2.2.2.1 w hw).1, sp_nw (cons_nw w25 (cons_nw h.2.1.1 (cons_nw w17 (cons_nw h.2.2.1.1 nil_nw))))]
    simp only [bl, Str.append_assoc, app_e, e_app]
  | desk n hn ts k rs t =>
    show sp ([(Str.ofString "hands"), nt hn, (Str.ofString "takes")] ++ ts.map nt ++ (if k then [(Str.ofString "ranked")] else []) ++ rsW rs ++ [(Str.ofString "then"), t]) = bl ([(Str.ofString "hands"), nt hn, (Str.ofString "takes")] ++ ts.map nt ++ (if k then [(Str.ofString "ranked")] else []) ++ (if rs = [] then [] else [(Str.ofString "rests"), Str.join (Str.ofString ", ") (rs.map rtx)]) ++ [(Str.ofString "then"), t])
    have hk : ∀ x ∈ (if k then [(Str.ofString "ranked")] else [] : List Str), nw x := by
      cases k
      · exact nil_nw
      · exact cons_nw w20 nil_nw
    have e1 : sp (rsW rs) = bl (if rs = [] then [] else [(Str.ofString "rests"), Str.join (Str.ofString ", ") (rs.map rtx)]) := by
      cases rs with
      | nil => rfl
      | cons p rs =>
        rw [if_neg (List.cons_ne_nil _ _), rs_cm]
        show gap (Str.ofString "rests") ++ (Str.ofString "rests") ++ sp (rt1 p ++ rs.flatMap fun p => (Str.ofString ",") :: rt1 p) = (Str.ofString " ") ++ (Str.ofString "rests") ++ ((Str.ofString " ") ++ (rtx p ++ sp (rs.flatMap fun p => (Str.ofString ",") :: rt1 p)) ++ (Str.ofString ""))
        rw [sp_app, rt_sp, gap_nw w21]
        simp only [Str.append_assoc, app_e]
    rw [sp_app, sp_app, sp_app, sp_app, bl_app, bl_app, bl_app, bl_app, e1, sp_nw hk, sp_nw mem_nts, sp_nw (cons_nw w19 (cons_nw (nt_nw hn) (cons_nw w18 nil_nw))), sp_nw (cons_nw w17 (cons_nw h.2.2.2.2.2.2.1 nil_nw))]
theorem name_nw {s : Sta} (h : s.ok) : gw s.name := by
  cases s <;> first | exact h.1 | exact h
/-- the law's text is the program's -/
theorem glue_text {s : Sta} (h : s.ok) : glue s.kind (s.name :: s.wds ++ [(Str.ofString ".")]) = s.text := by
  rw [glue_sp]
  show s.kind ++ (gap s.name ++ s.name ++ sp (s.wds ++ [(Str.ofString ".")])) = Str.join (Str.ofString " ") (s.kind :: s.name :: s.pcs) ++ (Str.ofString ".")
  rw [join_bl, gap_nw (name_nw h).1, sp_app, wds_pcs h]
  show _ ++ (_ ++ _ ++ (_ ++ (gap (Str.ofString ".") ++ (Str.ofString ".") ++ (Str.ofString "")))) = _ ++ ((Str.ofString " ") ++ s.name ++ bl s.pcs) ++ (Str.ofString ".")
  rw [gap_p, e_app, app_e]
  simp only [Str.append_assoc]
end My

set_option Elab.async false
set_option linter.all false
set_option maxRecDepth 100000
set_option maxHeartbeats 4000000
/-! F25: int of a text, the empty text in a text, o.clear(). -/
namespace My
open PySem L2
variable [TabEnv]
/-! ### no sign in a text -/
omit [TabEnv] in
def gSignE (neg : Bool) : O → O → M D := fun a b c => match a, b with
  | .d (.v (.str x)), .d (.v (.str _)) => match x.cps.toList with
    | [] => .ok (.v (.bl (!neg))) c
    | _ => .no
  | _, _ => .no
omit [TabEnv] in
def rSignE (neg : Bool) : R2 := fun x y H Q => ∃ z : Str, x = .str ⟨#[]⟩ ∧ y = .str z ∧ Q (.bl (!neg)) H
omit [TabEnv] in
theorem found_empty (x : Str) : (!(Builtin.Str.occurrences x ⟨#[]⟩ 0 x.length 1).isEmpty) = true := by
  rw [StrLaws.found_iff]
  refine ⟨0, Nat.zero_le _, ?_⟩
  rw [StrLaws.subAt_eq]
  rfl
omit [TabEnv] in
theorem op_inE {X : Cx} : OpR X (compareOp .In) (rSignE false) := by
  intro pins s σ H x y v u Q I rx ry h
  obtain ⟨z, rfl, rfl, q⟩ := h
  obtain ⟨t, rfl⟩ := rx
  obtain ⟨t', rfl⟩ := ry
  exact PyProof.Rows.in_str (fin_bl I q (found_empty z).symm)
omit [TabEnv] in
theorem op_notInE {X : Cx} : OpR X (compareOp .NotIn) (rSignE true) := by
  intro pins s σ H x y v u Q I rx ry h
  obtain ⟨z, rfl, rfl, q⟩ := h
  obtain ⟨t, rfl⟩ := rx
  obtain ⟨t', rfl⟩ := ry
  exact PyProof.Rows.notIn_str (fin_bl I q (congrArg Bool.not (found_empty z)).symm)
section
variable {X : Cx} {W : WX}
theorem r2_signE {K : PySem.W.Frag} (neg : Bool) : R2S K W (rSignE neg) (gSignE neg) := fun Z F μ c σ H Q x y a b R rx ry p => by
  unfold gSignE at p
  split at p
  · next x z =>
    cases rx with
    | d rx =>
      cases rx
      cases ry with
      | d ry =>
        cases ry
        split at p
        · next hk =>
          have hx : x = ⟨#[]⟩ := by
            obtain ⟨cps⟩ := x
            have := congrArg List.toArray hk
            simpa using this
          exact ⟨z, by rw [hx], rfl, p F μ H (Le.refl _ _) R _ (.v _)⟩
        · exact p.elim
  · exact p.elim
omit [TabEnv] in
def gInA (neg : Bool) : O → O → M D := gOr (gOr (gIn neg) (gSign neg)) (gSignE neg)
omit [TabEnv] in
def rInB (K : PySem.W.Frag) (neg : Bool) : R2 := fun x y H Q => rInA K neg x y H Q ∨ rSignE neg x y H Q
theorem cInA {K : PySem.W.Frag} (hK : X.K = K := by rfl) : CmpR X W .In (rInB K false) (gInA false) := by
  subst hK
  exact ⟨(cIn (W := W)).op.or op_inE, (cIn (W := W)).g.or (r2_signE false)⟩
theorem cNotInA {K : PySem.W.Frag} (hK : X.K = K := by rfl) : CmpR X W .NotIn (rInB K true) (gInA true) := by
  subst hK
  exact ⟨(cNotIn (W := W)).op.or op_notInE, (cNotIn (W := W)).g.or (r2_signE true)⟩
/-! ### int(text) -/
omit [TabEnv] in
def gIntA : O → M D := fun a c => match a with
  | .d (.v (.str x)) => match PySem.intText? x with
    | some n => if x.length ≤ 640 then .ok (.v (.int n)) c else .no
    | none => .no
  | a => gInt1 a c
omit [TabEnv] in
def rIntB : List V → Hp → VK → Prop := fun xs H Q => (∃ a n, xs = [.str a] ∧ PySem.intText? a = some n ∧ a.length ≤ 640 ∧ Q (.int n) H) ∨ rIntA xs H Q
omit [TabEnv] in
theorem call_intB : CallR X (.type "int") rIntB := by
  intro pins s σ H xs us Q I r h
  rcases h with h | h
  · exact call_int_str pins s σ H xs us Q I r h
  · exact call_int1 pins s σ H xs us Q I r h
theorem c1_intB {K : PySem.W.Frag} : C1S K W rIntB gIntA := fun Z F μ c σ H Q x a R rx p => by
  unfold gIntA at p
  split at p
  · next z =>
    cases rx with
    | d rx =>
      cases rx
      split at p
      · next n hn =>
        split at p
        · next hl => exact .inl ⟨z, n, rfl, hn, hl, p F μ H (Le.refl _ _) R _ (.v _)⟩
        · exact p.elim
      · exact p.elim
  · exact .inr (c1_int Z F μ c σ H Q x a R rx p)
theorem bIntA : B1 X W (.type "int") rIntB gIntA := ⟨call_intB, c1_intB⟩
/-! ### o.clear() -/
section
variable {o : Expr} {to : TE} {pos apos : Pos} {dob : M O}
omit [TabEnv] in
def dClr (dob : M O) : M D := M.bind dob fun o c => match mutD c o with
  | some _ => .ok (.v .non) (putL o [] c)
  | none => .no
theorem dd_clr {K : PySem.W.Frag} (ho : ED X W o to dob) (hbase : attributeBase o "clear" X.env (eval o X.env) = eval o X.env := by rfl) (hline : (apos.endLine == pos.line) = true := by rfl) (hK : X.K = K := by rfl) :
    DD X W (.Call (.Attribute o "clear" apos) [] [] pos) (tBM0 K "list" rClear to) (dClr dob) := by
  subst hK
  exact ⟨pe_bm0 PySem.F.plainAttrs_list PySem.F.slot_list_clear PySem.F.type_list_clear mt_clear ho.pe hbase hline, fun Z F μ c σ H Q R p => ho.ev Z F μ c σ H _ R (p.bind.imp fun x c1 F1 μ1 H1 l1 R1 p1 v r => by
    split at p1
    · next ds hs =>
      obtain ⟨l, vs, rfl, h1, rs, k⟩ := mut_at R1 r hs
      exact ⟨.inl ⟨rfl, _, .of h1⟩, l, vs, rfl, rfl, h1, p1 F1 μ1 _ (Le.refl _ _) (k _ _ .nil) _ (.v _)⟩
    · exact p1.elim)⟩
end
/-! ### a module's constants -/
section
variable {pos : Pos}
theorem ed_globV {x : Str} {v : V} (hg : Gl X x) (h : ∃ u, X.mg x = some u ∧ RelV v u) (hdb : (x == ("__debug__" : Str)) = false := by decide) : ED X W (.Name x pos) (tC v) (dK (.v v)) :=
  ed_glob hg h.choose_spec.1 h.choose_spec.2 (fun _ _ => .v _) hdb
omit [TabEnv] in
/-- a tuple of the module -/
def TupK (K : PySem.W.Frag) (a : Addr) (xs : List V) : Prop :=
  ∃ (o : Obj) (its : Array Value) (n : Nat), K.lookup a = some o ∧ o.cls = .type "tuple" ∧ o.data = .seq its n ∧ its.size ≤ sizeLine ∧ Vals xs its.toList
omit [TabEnv] in
theorem kt_of {K : PySem.W.Frag} {mg : Str → Option Value} {x : Str} {a : Addr} {o : Obj} {its : Array Value} {n : Nat} {vs : List V} (h1 : mg x = some (.ref a)) (h2 : K.lookup a = some o) (h3 : o.cls = .type "tuple") (h4 : o.data = .seq its n) (h5 : its.size ≤ sizeLine) (h6 : Vals vs its.toList) : ∃ a, mg x = some (.ref a) ∧ TupK K a vs := ⟨a, h1, o, its, n, h2, h3, h4, h5, h6⟩
omit [TabEnv] in
theorem reps_v {K : PySem.W.Frag} {F : Hp} {μ : List Addr} : ∀ vs : List V, Reps K F μ vs (vs.map .v)
  | [] => .nil
  | _ :: vs => .cons (.v _) (reps_v vs)
theorem ed_globT {K : PySem.W.Frag} {x : Str} {vs : List V} {ds : List D} (hg : Gl X x) (h : ∃ a, X.mg x = some (.ref a) ∧ TupK K a vs) (hds : vs.map D.v = ds := by rfl) (hdb : (x == ("__debug__" : Str)) = false := by decide) (hK : X.K = K := by rfl) : ED X W (.Name x pos) (tC (.ref h.choose)) (dK (.tup ds)) := by
  subst hK
  subst hds
  exact ed_glob hg h.choose_spec.1 rfl (fun _ _ => .tup (.inr h.choose_spec.2) (reps_v _)) hdb
end
end
end My

set_option Elab.async false
set_option linter.all false
set_option maxRecDepth 100000
set_option maxHeartbeats 4000000
/-! T03: texts parted into words. -/
namespace My
open PySem L2
def isLet (c : Nat) : Prop := 97 ≤ c ∧ c ≤ 122
def isFig (c : Nat) : Prop := 48 ≤ c ∧ c ≤ 57
instance (c : Nat) : Decidable (isLet c) := by
  unfold isLet
  infer_instance
instance (c : Nat) : Decidable (isFig c) := by
  unfold isFig
  infer_instance
theorem let_mem (c : Nat) : c ∈ (Str.ofString "abcdefghijklmnopqrstuvwxyz").cps.toList ↔ isLet c := by
  have e : (Str.ofString "abcdefghijklmnopqrstuvwxyz").cps.toList = (List.range 26).map (97 + ·) := by decide +kernel
  rw [e]
  unfold isLet
  simp only [List.mem_map, List.mem_range]
  constructor
  · rintro ⟨k, h1, rfl⟩
    omega
  · intro h
    exact ⟨c - 97, by omega, by omega⟩
theorem fig_mem (c : Nat) : c ∈ (Str.ofString "0123456789").cps.toList ↔ isFig c := by
  have e : (Str.ofString "0123456789").cps.toList = (List.range 10).map (48 + ·) := by decide +kernel
  rw [e]
  unfold isFig
  simp only [List.mem_map, List.mem_range]
  constructor
  · rintro ⟨k, h1, rfl⟩
    omega
  · intro h
    exact ⟨c - 48, by omega, by omega⟩
/-! ### numbers -/
theorem nt_cps {i : Int} (h : 0 ≤ i) : (nt i).cps.toList = (Nat.toDigits 10 i.toNat).map Char.toNat := by
  obtain ⟨m, rfl⟩ := Int.eq_ofNat_of_zero_le h
  exact PySem.W.KIN.signs_num m
theorem td_split {m : Nat} (h : 10 ≤ m) : Nat.toDigits 10 m = Nat.toDigits 10 (m / 10) ++ Nat.toDigits 10 (m % 10) := by
  have hm : m % 10 < 10 := Nat.mod_lt _ (by decide)
  have t : Nat.toDigits 10 (m / 10) ++ Nat.toDigits 10 (m % 10) = Nat.toDigits 10 (10 * (m / 10) + m % 10) := Nat.toDigits_append_toDigits (by decide) (by omega) hm
  rw [Nat.div_add_mod] at t
  exact t.symm
theorem td_head : ∀ (k m : Nat), m < k → 0 < m → ∃ c cs, (Nat.toDigits 10 m).map Char.toNat = c :: cs ∧ c ≠ 48
  | k + 1, m, hk, h => by
    by_cases hm : m < 10
    · rw [Nat.toDigits_of_lt_base hm]
      have : ∀ x : Nat, x < 10 → 0 < x → (Nat.digitChar x).toNat ≠ 48 := by decide
      exact ⟨_, [], rfl, this m hm h⟩
    · obtain ⟨c, cs, e, h2⟩ := td_head k (m / 10) (by omega) (by omega)
      rw [td_split (by omega), List.map_append, e]
      exact ⟨c, _, rfl, h2⟩
theorem td_len : ∀ (k m : Nat), m < 10 ^ (k + 1) → (Nat.toDigits 10 m).length ≤ k + 1
  | 0, m, h => by
    rw [Nat.toDigits_of_lt_base (by simpa using h)]
    simp
  | k + 1, m, h => by
    by_cases hm : m < 10
    · rw [Nat.toDigits_of_lt_base hm]
      simp
    · have := td_len k (m / 10) (by rw [Nat.pow_succ] at h; omega)
      rw [td_split (by omega), List.length_append, Nat.toDigits_of_lt_base (Nat.mod_lt _ (by decide))]
      simp only [List.length_cons, List.length_nil]
      omega
theorem td_fig (m : Nat) : ∀ c ∈ (Nat.toDigits 10 m).map Char.toNat, isFig c := by
  intro c hc
  obtain ⟨ch, hch, e⟩ := List.mem_map.mp hc
  have r := PyProof.Rows.digit_range (Nat.isDigit_of_mem_toDigits (by decide) (by decide) hch)
  rw [← e]
  exact r
/-- a row of letters, of figures, a point or a comma -/
def lwd (w : Str) : Prop := 1 ≤ w.cps.toList.length ∧ w.cps.toList.length ≤ 8 ∧ ∀ c ∈ w.cps.toList, isLet c
def fwd (w : Str) : Prop := 1 ≤ w.cps.toList.length ∧ w.cps.toList.length ≤ 4 ∧ (∀ c ∈ w.cps.toList, isFig c) ∧ (w = Str.ofString "0" ∨ w.cps.toList.head? ≠ some 48)
def pwd (w : Str) : Prop := w = Str.ofString "." ∨ w = Str.ofString ","
def wd (w : Str) : Prop := lwd w ∨ fwd w ∨ pwd w
instance (w : Str) : Decidable (lwd w) := by
  unfold lwd
  infer_instance
instance (w : Str) : Decidable (pwd w) := by
  unfold pwd
  infer_instance
theorem str_ext {a b : Str} (h : a.cps.toList = b.cps.toList) : a = b := by
  obtain ⟨x⟩ := a
  obtain ⟨y⟩ := b
  have := congrArg List.toArray h
  simp at this
  rw [this]
theorem nt_fwd {i : Int} (h : gi i) : fwd (nt i) := by
  have e := nt_cps h.1
  have l := td_len 3 i.toNat (by have := h.2; have := h.1; omega)
  unfold fwd
  rw [e]
  by_cases h0 : i = 0
  · subst h0
    refine ⟨by decide, by decide, td_fig _, .inl (str_ext ?_)⟩
    rw [e]
    decide +kernel
  · obtain ⟨c, cs, e2, h2⟩ := td_head (i.toNat + 1) i.toNat (by omega) (by have := h.1; omega)
    refine ⟨by rw [e2]; simp, by rw [List.length_map]; omega, td_fig _, .inr ?_⟩
    rw [e2]
    simpa using h2
theorem nt_int {i : Int} (h : gi i) : PySem.intText? (nt i) = some i := PySem.W.KIN.num_reads h.1 (by have := h.2; omega)
/-- whether a word is a number -/
def isnum (w : Str) : Bool := match w.cps.toList with
  | [] => false
  | c :: _ => decide (isFig c)
theorem isnum_fwd {w : Str} (h : fwd w) : isnum w = true := by
  unfold isnum
  obtain ⟨h1, _, h3, _⟩ := h
  cases e : w.cps.toList with
  | nil => rw [e] at h1; simp at h1
  | cons c cs =>
    rw [e] at h3
    simpa using h3 c List.mem_cons_self
theorem isnum_lwd {w : Str} (h : lwd w) : isnum w = false := by
  unfold isnum
  obtain ⟨h1, _, h3⟩ := h
  cases e : w.cps.toList with
  | nil => rfl
  | cons c cs =>
    rw [e] at h3
    have := h3 c List.mem_cons_self
    simp only [decide_eq_false_iff_not]
    unfold isLet at this
    unfold isFig
    omega
theorem isnum_pwd {w : Str} (h : pwd w) : isnum w = false := by
  rcases h with rfl | rfl <;> decide +kernel
/-! ### names -/
def TOLDs : List Str := [Str.ofString "pool", Str.ofString "holds", Str.ofString "door", Str.ofString "rank", Str.ofString "at", Str.ofString "draws", Str.ofString "upto", Str.ofString "gaps", Str.ofString "to", Str.ofString "from", Str.ofString "then", Str.ofString "way", Str.ofString "takes", Str.ofString "desk", Str.ofString "hands", Str.ofString "ranked", Str.ofString "rests", Str.ofString "gate", Str.ofString "opens", Str.ofString "for", Str.ofString "below", Str.ofString "fork", Str.ofString "by", Str.ofString "turns", Str.ofString "number", Str.ofString "least", Str.ofString "lend", Str.ofString "of", Str.ofString "give", Str.ofString "exit", Str.ofString "change"]
def nm (w : Str) : Prop := lwd w ∧ w ∉ TOLDs
theorem told_lwd : ∀ w ∈ TOLDs, lwd w := by
  have : (TOLDs.all fun w => decide (lwd w)) = true := by decide +kernel
  exact fun w h => of_decide_eq_true (List.all_eq_true.mp this w h)
/-! ### texts as rows of words -/
inductive Lx : List Nat → List Str → Prop
  | nil : Lx [] []
  | bl {c : Nat} {r : List Nat} {ws : List Str} : (c = 32 ∨ c = 10) → Lx r ws → Lx (c :: r) ws
  | wd {w : Str} {r : List Nat} {ws : List Str} : wd w → (lwd w → ∀ c ∈ r.head?, ¬ isLet c) → (fwd w → ∀ c ∈ r.head?, ¬ isFig c) → Lx r ws → Lx (w.cps.toList ++ r) (w :: ws)
theorem Lx.bls : ∀ {b : List Nat} {r : List Nat} {ws : List Str}, (∀ c ∈ b, c = 32 ∨ c = 10) → Lx r ws → Lx (b ++ r) ws
  | [], _, _, _, h => h
  | c :: b, r, ws, hb, h => .bl (hb c List.mem_cons_self) (Lx.bls (fun x hx => hb x (List.mem_cons_of_mem _ hx)) h)
def sgT (p : List Nat × Str) : List Nat := p.1 ++ p.2.cps.toList
/-- words with what stands between -/
def sgOk : List (List Nat × Str) → Prop
  | [] => True
  | [p] => (∀ c ∈ p.1, c = 32 ∨ c = 10) ∧ wd p.2
  | p :: q :: r => (∀ c ∈ p.1, c = 32 ∨ c = 10) ∧ wd p.2 ∧ (q.1 = [] → ¬ (lwd p.2 ∧ lwd q.2) ∧ ¬ (fwd p.2 ∧ fwd q.2)) ∧ sgOk (q :: r)
theorem wd_head {w : Str} (h : wd w) : ∃ c cs, w.cps.toList = c :: cs ∧ (isLet c → lwd w) ∧ (isFig c → fwd w) := by
  rcases h with h | h | h
  · obtain ⟨h1, h2, h3⟩ := h
    cases e : w.cps.toList with
    | nil => rw [e] at h1; simp at h1
    | cons c cs =>
      refine ⟨c, cs, rfl, fun _ => ⟨h1, h2, h3⟩, fun hf => ?_⟩
      have := h3 c (by rw [e]; exact List.mem_cons_self)
      unfold isLet at this
      unfold isFig at hf
      omega
  · obtain ⟨h1, h2, h3, h4⟩ := h
    cases e : w.cps.toList with
    | nil => rw [e] at h1; simp at h1
    | cons c cs =>
      refine ⟨c, cs, rfl, fun hf => ?_, fun _ => ⟨h1, h2, h3, h4⟩⟩
      have := h3 c (by rw [e]; exact List.mem_cons_self)
      unfold isFig at this
      unfold isLet at hf
      omega
  · rcases h with rfl | rfl
    · exact ⟨46, [], by decide +kernel, fun h => absurd h (by decide), fun h => absurd h (by decide)⟩
    · exact ⟨44, [], by decide +kernel, fun h => absurd h (by decide), fun h => absurd h (by decide)⟩
theorem lx_sg : ∀ (sg : List (List Nat × Str)) (e : List Nat), sgOk sg → (∀ c ∈ e, c = 32 ∨ c = 10) → Lx (sg.flatMap sgT ++ e) (sg.map (·.2))
  | [], e, _, he => by
    have := Lx.bls he .nil
    simpa using this
  | [p], e, h, he => by
    have q : Lx (p.2.cps.toList ++ e) [p.2] := .wd h.2 (fun _ c hc => ?_) (fun _ c hc => ?_) (by simpa using Lx.bls he .nil)
    · have := Lx.bls h.1 q
      simpa [sgT] using this
    all_goals
      have := he c (List.mem_of_mem_head? hc)
      first
        | (unfold isLet; omega)
        | (unfold isFig; omega)
  | p :: q :: r, e, h, he => by
    obtain ⟨h1, h2, h3, h4⟩ := h
    have ih := lx_sg (q :: r) e h4 he
    have hq : wd q.2 ∧ (∀ c ∈ q.1, c = 32 ∨ c = 10) := by
      cases r with
      | nil => exact ⟨h4.2, h4.1⟩
      | cons _ _ => exact ⟨h4.2.1, h4.1⟩
    obtain ⟨x, xs, e1, e2, e3⟩ := wd_head hq.1
    have hd : ∀ c ∈ ((q :: r).flatMap sgT ++ e).head?, (isLet c → q.1 = [] ∧ lwd q.2) ∧ (isFig c → q.1 = [] ∧ fwd q.2) := by
      intro c hc
      rw [List.flatMap_cons, List.append_assoc] at hc
      unfold sgT at hc
      cases hb : q.1 with
      | nil =>
        rw [hb, List.nil_append, e1] at hc
        have : x = c := by simpa using hc
        subst this
        exact ⟨fun h => ⟨rfl, e2 h⟩, fun h => ⟨rfl, e3 h⟩⟩
      | cons y ys =>
        rw [hb] at hc
        have : y = c := by simpa using hc
        subst this
        have := hq.2 y (by rw [hb]; exact List.mem_cons_self)
        refine ⟨fun h => ?_, fun h => ?_⟩
        · unfold isLet at h; omega
        · unfold isFig at h; omega
    have w : Lx (p.2.cps.toList ++ ((q :: r).flatMap sgT ++ e)) (p.2 :: (q :: r).map (·.2)) := .wd h2 (fun hl c hc hx => ?_) (fun hl c hc hx => ?_) ih
    · have := Lx.bls h1 w
      rw [List.flatMap_cons, List.map_cons]
      simpa [sgT, List.append_assoc] using this
    · obtain ⟨hb, hw⟩ := (hd c hc).1 hx
      exact (h3 hb).1 ⟨hl, hw⟩
    · obtain ⟨hb, hw⟩ := (hd c hc).2 hx
      exact (h3 hb).2 ⟨hl, hw⟩
end My

set_option Elab.async false
set_option linter.all false
set_option maxRecDepth 100000
set_option maxHeartbeats 4000000
/-! F26: d.get(k, x). -/
namespace My
open PySem L2
variable [TabEnv]
section
variable {X : Cx} {W : WX} {o e f : Expr} {apos cpos : Pos} {td ty tx : TE} {dob : M O} {di dv : M D}
omit [TabEnv] in
def dDGet2 (dob : M O) (di dv : M D) : M D := M.bind dob fun x c1 => match dctD c1 x with
  | some _ => M.bind di (fun k => M.bind dv fun y c => match dctD c x, keyD k with
    | some kvs, some k => .ok ((valD kvs k).getD y) c
    | _, _ => .no) c1
  | none => .no
theorem dd_dget2 (hu : X.A.units + 1 < cLine) (ho : ED X W o td dob) (hi : DD X W e ty di) (hf : DD X W f tx dv) (m : M2 X o "get" apos e f cpos) : DD X W (.Call (.Attribute o "get" apos) [e, f] [] cpos) (tDGet2 td ty tx) (dDGet2 dob di dv) :=
  ⟨pe_dget2 hu ho.pe hi.pe hf.pe m, fun Z F μ c σ H Q R p => ho.ev Z F μ c σ H _ R (p.bind.imp fun x c1 F1 μ1 H1 l1 R1 p1 v r => by
    split at p1
    · next kv0 e0 =>
      obtain ⟨a, gs, n, rfl, rfl, hn, hs, ha, hk, rs⟩ := dct_at R1 r e0
      refine ⟨a, rfl, .inl ⟨gs, .inl ha⟩, hi.ev Z F1 μ1 c1 σ H1 _ R1 (p1.bind.imp fun k c2 F2 μ2 H2 l2 R2 p2 u ru => hf.ev Z F2 μ2 c2 σ H2 _ R2 (p2.bind.imp fun y c3 F3 μ3 H3 l3 R3 p3 w rw' => ?_))⟩
      split at p3
      · next kvs kk e1 e2 =>
        obtain ⟨a', gs', n', e3, e4, hn', hs', ha', hk', rs'⟩ := dct_at R3 ((r.mono l2).mono l3) e1
        cases e3
        cases e4
        have := key_at ru e2
        subst this
        refine ⟨_, DGet.k (k := kk) ha', ?_⟩
        cases q : valD kvs kk with
        | none =>
          rw [val_none hk' q]
          rw [q] at p3
          exact p3 F3 μ3 H3 (Le.refl _ _) R3 _ rw'
        | some z =>
          obtain ⟨t, ht, rt⟩ := val_rep hk' rs' q
          rw [ht]
          rw [q] at p3
          exact p3 F3 μ3 H3 (Le.refl _ _) R3 _ rt
      · exact p3.elim
    · exact p1.elim)⟩
/-! ### a text times a number -/
omit [TabEnv] in
instance (x : Str) (n : Int) : Decidable (MulOk x n) := by
  unfold MulOk
  infer_instance
omit [TabEnv] in
def gMulS : O → O → M D := fun a b c => match a, b with
  | .d (.v (.str x)), .d (.v (.int n)) => if MulOk x n then .ok (.v (.str (Txt.mul x n))) c else .no
  | _, _ => .no
omit [TabEnv] in
def rMulS : R2 := fun x y H Q => ∃ a n, x = .str a ∧ y = .int n ∧ MulOk a n ∧ Q (.str (Txt.mul a n)) H
omit [TabEnv] in
theorem op_mulS : OpR X (binaryOp .Mult) rMulS := by
  intro pins s σ H x y v u Q I rx ry h
  obtain ⟨a, n, rfl, rfl, hok, q⟩ := h
  obtain ⟨t, rfl⟩ := rx
  obtain ⟨t', rfl⟩ := ry
  exact PySem.SB.mul hok fun t' k => ⟨.str _, H, I.tok k, ⟨_, rfl⟩, q⟩
theorem r2_mulS {K : PySem.W.Frag} : R2S K W rMulS gMulS := fun Z F μ c σ H Q x y a b R rx ry p => by
  unfold gMulS at p
  split at p
  · next z n =>
    cases rx with
    | d rx =>
      cases rx
      cases ry with
      | d ry =>
        cases ry
        split at p
        · next hok => exact ⟨z, n, rfl, rfl, hok, p F μ H (Le.refl _ _) R _ (.v _)⟩
        · exact p.elim
  · exact p.elim
theorem dd_mulS {a b : Expr} {ta tb : TE} {pos : Pos} {da db : M O} (ha : ED X W a ta da) (hb : ED X W b tb db) : DD X W (.BinOp a .Mult b pos) (tOp rMulS ta tb) (dOp gMulS da db) := dd_op op_mulS r2_mulS ha hb
end
end My

set_option Elab.async false
set_option linter.all false
set_option maxRecDepth 100000
set_option maxHeartbeats 4000000
/-! F27: own exceptions: raised, caught, looked at; defs as values. -/
namespace My
open PySem L2
variable [TabEnv]
/-! ### raise C("..") -/
omit [TabEnv] in
def veRow : List Value := [.type "ValueError", .type "Exception", .type "BaseException", .type "object"]
omit [TabEnv] in
structure Rais (K : PySem.W.Frag) (mg : Str → Option Value) (x : Str) (C : Addr) : Prop where
  q : PySem.W.excIn K C veRow "ValueError.__new__" = true
  g : mg x = some (.ref C)
  k : PySem.W.keepIn K (.ref C) = true
  s : PySem.W.subIn K (.ref C) (.type "BaseException") = some true
  t : PySem.W.typeIn K (.ref C) = some (.type "type")
omit [TabEnv] in
def dRaise (C : Addr) : M Fl := fun c => .ex ⟨.ref C, none⟩ c
section
variable {X : Cx} {W : WX} {pos pos' : Pos}
theorem sd_raise {x m : Str} {C : Addr} {j : Nat} {p p2 : Pos} (h : Rais X.K X.mg x C) (hc : X.calm = true) (tk : L2N.Takes X W) (hg : Gl X x) (hdb : (x == ("__debug__" : Str)) = false := by decide) :
    SD X W (.Raise (some (.Call (.Name x p) [.Constant (.str m) j p2] [] pos)) none pos') (fun _ σ H => W (.ref C) none σ H) (dRaise C) :=
  ⟨L2N.ps_raise hc tk (L2N.pmk_own PySem.F.excBase_ValueError h.q h.g h.k (raises_own h.s h.t) hg hdb), fun Z F μ c σ H D R p => p (.ref C) none σ F μ H (Le.refl _ _) R .none⟩
end
/-! ### try: .., except C as e: .. -/
omit [TabEnv] in
def wipeR (i : Nat) : R Fl → R Fl
  | .ok f c => .ok f ⟨c.r.set i .no, c.S⟩
  | _ => .no
omit [TabEnv] in
def odOk : Option Addr → Option (Str × D) → Prop
  | none, none => True
  | some _, some _ => True
  | _, _ => False
omit [TabEnv] in
/-- one and the same, wherever the exception lies -/
def OneEnd (i : Nat) (hd : Addr → Option Addr → Value → M Fl) (C : Addr) (fld : Option (Str × D)) (c : Stt) (r : R Fl) : Prop := ∀ a od, odOk od fld → wipeR i (hd a od (.ref C) ⟨c.r.set i (.d (.exn a od (.ref C) fld)), c.S⟩) = r
open Classical in
omit [TabEnv] in
noncomputable def dTry (db : M Fl) (i : Nat) (cat : List Addr) (hd : Addr → Option Addr → Value → M Fl) : M Fl := fun c => match db c with
  | .ex ⟨.ref C, fld⟩ c' => if C ∈ cat then (if h : ∃ r, OneEnd i hd C fld c' r then h.choose else .no) else .no
  | .ex _ _ => .no
  | r => r
omit [TabEnv] in
theorem dTry_ok {db : M Fl} {i : Nat} {cat : List Addr} {hd : Addr → Option Addr → Value → M Fl} {c c' : Stt} {f : Fl} (h : db c = .ok f c') : dTry db i cat hd c = .ok f c' := by
  unfold dTry
  rw [h]
omit [TabEnv] in
theorem dTry_ex {db : M Fl} {i : Nat} {cat : List Addr} {hd : Addr → Option Addr → Value → M Fl} {c c' : Stt} {C : Addr} {fld : Option (Str × D)} {r : R Fl} (h : db c = .ex ⟨.ref C, fld⟩ c') (hC : C ∈ cat) (hr : OneEnd i hd C fld c' r) : dTry db i cat hd c = r := by
  unfold dTry
  rw [h]
  dsimp only
  have hx : ∃ r, OneEnd i hd C fld c' r := ⟨r, hr⟩
  rw [if_pos hC, dif_pos hx]
  have e1 := hx.choose_spec
  have : ∃ od, odOk od fld := by
    cases fld with
    | none => exact ⟨none, trivial⟩
    | some _ => exact ⟨some 0, trivial⟩
  obtain ⟨od, ho⟩ := this
  rw [← e1 0 od ho]
  exact hr 0 od ho
section
variable {X : Cx} {W : WX} {pos pos' np : Pos} {i : Nat} {x n : Str} {Cx0 : Addr} {cat : List Addr} {body suite : List Stmt} {b₀ : Stmt} {tb : WX → TS} {ts : Addr → Value → Option Addr → TS} {db : M Fl} {hd : Addr → Option Addr → Value → M Fl}
theorem sd_try {K : PySem.W.Frag} (hs : X.stack = X.env :: X.outer) (hf : X.env.frame = some X.env.locals) (hN : X.N.Nodup) (hi : X.N[i]? = some n) (hln : X.env.kindOf n = some .local) (hc : Names X x (.ref Cx0)) (tk : L2N.Takes X W) (hcat : ∀ C ∈ cat, PySem.W.exmOne K (.ref C) (.ref Cx0) = some true)
    (hb : ∀ (W' : WX) (pn : List (Addr × Obj)) (xe : Value → Shared → Prop), L2N.Takes (X.tr pn xe) W' → BD (X.tr pn xe) W' body (tb W') db)
    (hsu : ∀ (a : Addr) (oe : Obj) (cls : Value) (d : Option Addr) (pn : List (Addr × Obj)), L2N.Zn cls d oe → (∃ vs, oe.data = .fields vs) → BD (X.suite a ((a, oe) :: pn)) W0 (b₀ :: suite) (ts a cls d) (hd a d cls)) (hK : X.K = K := by rfl) :
    SD X W (.Try body [.ExceptHandler (some (.Name x np)) (some n) (b₀ :: suite) pos'] [] [] pos) (fun D σ H => tb (wAs X.K (.ref Cx0) i ts W D) D σ H) (dTry db i cat hd) := by
  subst hK
  refine ⟨L2N.ps_try_as hs hf hN hi hln hc tk (fun W' pn xe t _ => (hb W' pn xe t).ps) (fun a oe cls d pn hz hv => (hsu a oe cls d pn hz hv).ps), fun Z F μ c σ H D R p => ?_⟩
  have ev := (hb (wAs X.K (.ref Cx0) i ts W D) X.pn (fun _ _ => True) (fun _ _ _ => trivial)).ev
  refine ev Z F μ c σ H D R ?_
  unfold dTry at p
  cases hdb : db c with
  | no => rw [hdb] at p; exact p.elim
  | ok f c1 =>
    rw [hdb] at p
    dsimp only at p
    cases f <;> exact p
  | ex e c1 =>
    rw [hdb] at p
    intro cls od σ1 F1 μ1 H1 l1 R1 x1
    obtain ⟨ec, fld⟩ := e
    have hcls : cls = ec := by cases x1 <;> rfl
    subst hcls
    cases cls with
    | ref C =>
      dsimp only at p
      split at p
      · next hC =>
        split at p
        · next hx =>
          have one := hx.choose_spec
          generalize hx.choose = r at p one
          refine ⟨true, hcat C hC, fun _ a ha => ?_, fun z => by cases z⟩
          have zc : L2N.Zn (.ref C) od (⟨.ref C, od, .fields #[.none, .none, .none], #[]⟩ : Obj) := ⟨rfl, rfl, fun vs e => by cases e; rfl⟩
          have he := (hsu a _ (.ref C) od X.pn zc ⟨_, rfl⟩).ev
          have ho : odOk od fld := by cases x1 <;> trivial
          have rep : Rep X.K F1 μ1 (.ref a) (.exn a od (.ref C) fld) := by
            cases x1 with
            | none => exact .exn0
            | some h r => exact .exn1 h r
          refine he Z F1 μ1 ⟨c1.r.set i (.d (.exn a od (.ref C) fld)), c1.S⟩ _ H1 _ (R1.setD rep) ?_
          have q := one a od ho
          cases hq : hd a od (.ref C) ⟨c1.r.set i (.d (.exn a od (.ref C) fld)), c1.S⟩ with
          | no =>
            rw [hq] at q
            rw [← q] at p
            exact p.elim
          | ex e2 c2 =>
            rw [hq] at q
            rw [← q] at p
            exact p.elim
          | ok f c2 =>
            rw [hq] at q
            rw [← q] at p
            cases f with
            | nx => exact fun σ2 F2 μ2 H2 l2 R2 => p (σ2.set i none) F2 μ2 H2 (l1.trans l2) (rel_no R2 i none)
            | bk => exact fun σ2 F2 μ2 H2 l2 R2 => p (σ2.set i none) F2 μ2 H2 (l1.trans l2) (rel_no R2 i none)
            | ct => exact fun σ2 F2 μ2 H2 l2 R2 => p (σ2.set i none) F2 μ2 H2 (l1.trans l2) (rel_no R2 i none)
            | rt d => exact fun v σ2 F2 μ2 H2 l2 R2 r2 => p v (σ2.set i none) F2 μ2 H2 (l1.trans l2) (rel_no R2 i none) r2
        · exact p.elim
      · exact p.elim
    | _ => exact p.elim
end
/-! ### isinstance(e, C), e an exception that is held -/
omit [TabEnv] in
def exdOk (H : Hp) : Option Addr → Prop
  | none => True
  | some d => ∃ fs, H d = some (.xd fs)
omit [TabEnv] in
def rIsX (K : PySem.W.Frag) (a : Addr) (cls : Value) (d : Option Addr) : List V → Hp → VK → Prop := fun xs H Q => ∃ (C : Addr) (c : V) (cv : Value) (b : Bool), cls = .ref C ∧ ExcC K C ∧ xs = [.ref a, c] ∧ (∀ u, RelV c u → u = cv) ∧ PySem.W.kitOne K (.ref C) cv = some b ∧ exdOk H d ∧ Q (.bl b) H
section
variable {X : Cx} {a C : Addr} {cls : Value} {oe : Obj} {d : Option Addr}
omit [TabEnv] in
theorem inst_held {pins : List (Addr × Obj)} {σ : St} {H : Hp} {s : Shared} (I : Inv X pins σ H s) (hp : (a, oe) ∈ X.pn) (hz : Zc (.ref C) d oe) (hf : ∃ vs, oe.data = .fields vs) (hd : exdOk H d) : ∃ od, PySem.W.InstAt s.heap a oe C od := by
  have g := (I.pin (a, oe) (List.mem_append.mpr (.inl hp))).1
  obtain ⟨vs, hv⟩ := hf
  have hn : PySem.W.notCls oe = true := by
    unfold PySem.W.notCls
    rw [hv]
  cases d with
  | none => exact ⟨none, g, hz.1, hn, by rw [hz.2]; trivial⟩
  | some dd =>
    obtain ⟨fs, hh⟩ := hd
    have ho : ObjOk X.prog X.w H s.heap dd (.xd fs) := I.hok dd _ hh
    obtain ⟨mA, hns, _⟩ := ho
    obtain ⟨od, ho, _⟩ := lookIn_ns hns
    exact ⟨some od, g, hz.1, hn, by rw [hz.2]; exact ho⟩
omit [TabEnv] in
theorem kitx_held (c : ExcC X.K C) {od : Option Obj} : PySem.W.KitX X.K (.ref a) (.ref C) (fun h => PySem.W.InstAt h a oe C od) := by
  obtain ⟨cd, hc, _⟩ := PySem.W.any_some c.hd
  exact PySem.W.kitx_exc (by rw [hc]; rfl) c.hg c.hk c.hs c.ha c.hn c.ht c.hm
omit [TabEnv] in
theorem call_isX (hp : (a, oe) ∈ X.pn) (hz : Zc cls d oe) (hf : ∃ vs, oe.data = .fields vs) : CallR X (.builtin "isinstance") (rIsX X.K a cls d) := by
  intro pins s σ H xs us Q I r h
  obtain ⟨C, cc, cv, b, rfl, c, rfl, hcv, e, hd, q⟩ := h
  obtain ⟨u1, u2, rfl, r1, r2⟩ := vals2 r
  cases (show u1 = Value.ref a from r1)
  rw [hcv _ r2]
  obtain ⟨od, J⟩ := inst_held I hp hz hf hd
  exact PySem.W.kia_one (kitx_held c) I.kIn J e (fun z => nomatch z) fun tk => ⟨.bl b, H, I.tok tk, rfl, q⟩
end
open Classical in
omit [TabEnv] in
noncomputable def gIsE (a : Addr) (od : Option Addr) (cls : Value) (tbl : List (Addr × Bool)) : D → M D := fun x c => match x with
  | .exn a' od' cls' _ => if a' = a ∧ od' = od ∧ cls' = cls then match cls with
      | .ref C => match tbl.lookup C with
        | some b => .ok (.v (.bl b)) c
        | none => .no
      | _ => .no
    else .no
  | _ => .no
omit [TabEnv] in
theorem gIsE_ok {a : Addr} {od : Option Addr} {C : Addr} {tbl : List (Addr × Bool)} {fld : Option (Str × D)} {b : Bool} (h : tbl.lookup C = some b) (c : Stt) : gIsE a od (.ref C) tbl (.exn a od (.ref C) fld) c = .ok (.v (.bl b)) c := by
  unfold gIsE
  dsimp only
  rw [if_pos ⟨rfl, rfl, rfl⟩, h]
omit [TabEnv] in
theorem lookup_memB {L : List (Addr × Bool)} {C : Addr} {g : Bool} (h : L.lookup C = some g) : (C, g) ∈ L := by
  induction L with
  | nil => cases h
  | cons p L ih =>
    obtain ⟨k, b⟩ := p
    rw [List.lookup_cons] at h
    split at h
    · next e =>
      cases h
      have : C = k := by simpa using e
      subst this
      exact List.mem_cons_self
    · exact List.mem_cons_of_mem _ (ih h)
theorem exn_dOk {K : PySem.W.Frag} {Z F : Hp} {μ : List Addr} {c : Stt} {σ : St} {H : Hp} {v : V} {a : Addr} {od : Option Addr} {cls : Value} {fld : Option (Str × D)} (R : Rel K Z F μ c σ H) (r : Rep K F μ v (.exn a od cls fld)) : v = .ref a ∧ exdOk H od := by
  cases r with
  | exn0 => exact ⟨rfl, trivial⟩
  | exn1 h _ => exact ⟨rfl, _, R.ex _ _ h⟩
section
variable {X : Cx} {W : WX} {pos : Pos}
theorem dd_isE {K : PySem.W.Frag} {a0 : Addr} {oe : Obj} {cls : Value} {od : Option Addr} {x : Str} {v : Value} {p q : Pos} {dx : M D} {a : Expr} {ta : TE} {vv : V} {tbl : List (Addr × Bool)} (hp : (a0, oe) ∈ X.pn) (hz : L2N.Zn cls od oe) (hf : ∃ vs, oe.data = .fields vs)
    (hT : ∀ e ∈ tbl, ExcC K e.1 ∧ PySem.W.kitOne K (.ref e.1) v = some e.2)
    (hg : Gl X "isinstance") (hm : X.mg "isinstance" = none) (hv : bootBuiltins "isinstance" = some (.builtin "isinstance")) (ha : DD X W a ta dx) (hc : PE X (.Name x q) (tC vv)) (rv : ∀ u, RelV vv u → u = v)
    (hs : starEach [a, .Name x q] X.env = (false, eval a X.env) :: starEach [.Name x q] X.env := by rfl) (hs2 : starEach [.Name x q] X.env = (false, eval (.Name x q) X.env) :: starEach [] X.env := by rfl)
    (he : starEach [a, .Name x q] X.env = (false, eval a X.env) :: starEach [.Name x q] X.env := by rfl) (hpl : (backTo pos (starEach [.Name x q] X.env)).any (·.1) = false := by rfl) (hK : X.K = K := by rfl) :
    DD X W (.Call (.Name "isinstance" p) [a, .Name x q] [] pos) (tCB (rIsX K a0 cls od) (tCons ta (tCons (tC vv) tNil))) (M.bind dx (gIsE a0 od cls tbl)) := by
  subst hK
  refine ⟨pe_callB (call_isX hp hz.zc hf) hg hm hv (pa_cons ha.pe (pa_cons hc pa_nil hs2) hs) (by decide) (by decide) he hpl, fun Z F μ c σ H Q R p => ha.ev Z F μ c σ H _ R (p.bind.imp fun x c3 F1 μ1 H1 l1 R1 p1 v1 r1 => ?_)⟩
  unfold gIsE at p1
  split at p1
  · next a' od' cls' fld =>
    split at p1
    · next hs =>
      obtain ⟨rfl, rfl, rfl⟩ := hs
      obtain ⟨rfl, hd⟩ := exn_dOk R1 r1
      split at p1
      · next C =>
        split at p1
        · next b hl =>
          obtain ⟨c1, c2⟩ := hT _ (lookup_memB hl)
          exact ⟨C, vv, v, b, rfl, c1, rfl, rv, c2, hd, p1 F1 μ1 H1 (Le.refl _ _) R1 _ (.v _)⟩
        · exact p1.elim
      · exact p1.elim
    · exact p1.elim
  · exact p1.elim
end
/-! ### a local that holds a def, called -/
def HeldG (P : Program) (w : World) (K : PySem.W.Frag) (mg : Str → Option Value) (base : Heap) (k : Nat) (f : Addr) (g : G) : Prop :=
  ∃ (fd : FuncData) (ps : List Str), FnOk P w K mg base (L2N.CX P w) k f fd ps (spG K g) ∧ PySem.W.keepIn K (.ref f) = true ∧ ∀ us : List Value, us.length = ps.length → bindArgs fd ⟨us, []⟩ = pure (ps.zip us)
theorem HeldG.of {P : Program} {w : World} {K : PySem.W.Frag} {mg : Str → Option Value} {base : Heap} {j k : Nat} {x : Str} {ps : List Str} {f : Addr} {g : G} (h : Okf P w K mg base j x ps g) (hm : mg x = some (.ref f)) (hj : j ≤ k) : HeldG P w K mg base k f g := by
  obtain ⟨f', fd, F, h1, h2, h3⟩ := h
  rw [hm] at h1
  cases h1
  exact ⟨fd, ps, F.mono hj, h2, h3⟩
def OkV (P : Program) (w : World) (K : PySem.W.Frag) (mg : Str → Option Value) (base : Heap) (k : Nat) (tbl : List (Addr × G)) : Prop := ∀ e ∈ tbl, HeldG P w K mg base k e.1 e.2
omit [TabEnv] in
def fnvD (tbl : List (Addr × G)) (i : Nat) (c : Stt) : Option G := match c.r[i]? with
  | some (.d (.v (.ref f))) => tbl.lookup f
  | _ => none
omit [TabEnv] in
def dCallV (tbl : List (Addr × G)) (i : Nat) (dr : M (List D)) : M D := fun c => match fnvD tbl i c with
  | some g => dCall g dr c
  | none => .no
omit [TabEnv] in
theorem lookup_memG {L : List (Addr × G)} {C : Addr} {g : G} (h : L.lookup C = some g) : (C, g) ∈ L := by
  induction L with
  | nil => cases h
  | cons p L ih =>
    obtain ⟨k, b⟩ := p
    rw [List.lookup_cons] at h
    split at h
    · next e =>
      cases h
      have : C = k := by simpa using e
      subst this
      exact List.mem_cons_self
    · exact List.mem_cons_of_mem _ (ih h)
section
variable {X : Cx} {W : WX} {pos p : Pos}
def tCallV (P : Program) (w : World) (K : PySem.W.Frag) (mg : Str → Option Value) (base : Heap) (k i : Nat) (E : St → XK) (t : TA) : TE := fun σ H Q => ∃ f g, σ[i]? = some (some (.ref f)) ∧ HeldG P w K mg base k f g ∧ t σ H fun vs H1 => spG K g vs H1 Q (E σ)
theorem dd_callV {K : PySem.W.Frag} {P : Program} {w : World} {mg : Str → Option Value} {base : Heap} {k i : Nat} {tbl : List (Addr × G)} {x : Str} {a : Expr} {es : List Expr} {tr : TA} {dr : M (List D)} (h : OkV P w K mg base k tbl) (hr : Room k X.A) (hx : Pol X W) (hN : X.N[i]? = some x) (hv : Vis X.env.scope x) (ha : AD X W (a :: es) tr dr)
    (hdb : (x == ("__debug__" : Str)) = false := by decide) (hcd : (x == ("__classdict__" : Str)) = false := by decide)
    (he : starEach (a :: es) X.env = (false, eval a X.env) :: starEach es X.env := by rfl) (hpl : (backTo pos (starEach es X.env)).any (·.1) = false := by rfl) (hK : X.K = K := by rfl) (hP : X.prog = P := by rfl) (hw : X.w = w := by rfl) (hm : X.mg = mg := by rfl) (hb : X.base = base := by rfl) :
    DD X W (.Call (.Name x p) (a :: es) [] pos) (tCallV P w K mg base k i (WE W) tr) (dCallV tbl i dr) := by
  subst hP hw hm hb
  subst hK
  refine ⟨⟨fun pins s σ H Q I hq => ?_⟩, fun Z F μ c σ H Q R q => ?_⟩
  · obtain ⟨f, g, h1, ⟨fd, ps, Fk, kp, bd⟩, h2⟩ := hq
    refine wpAny_Call_Name_kw (thn ((pe_var (pos := p) hN hv hdb hcd).run pins s σ H (fun y H1 => y = .ref f ∧ H1 = H) I ⟨.ref f, h1, rfl, rfl⟩) fun u s1 hu => ?_)
    obtain ⟨y, H1, I1, ry, ey, eH⟩ := hu
    subst ey
    subst eH
    obtain rfl : u = Value.ref f := ry
    refine PySem.W.callWith_K (h₀ := X.base) I1.ok.mod.kin kp ?_ he hpl
    refine thn (ha.pa.run pos pins s1 σ _ _ I1 h2) fun us s2 hs => ?_
    obtain ⟨vs, H2, I2, rv, sp⟩ := hs
    exact ⟨I2.kIn, run_fnS Fk hr (.all bd) (hx σ) I2 rv sp⟩
  · unfold dCallV fnvD at q
    split at q
    · next g hg =>
      split at hg
      · next f hf =>
        obtain ⟨v, hs, rv⟩ := R.slot i _ hf
        have hl := lookup_memG hg
        cases rv
        refine ⟨f, g, hs, h _ hl, ha.ev Z F μ c σ H _ R (q.bind.imp fun ds c1 F1 μ1 H1 l1 R1 p1 vs rs => sp_call R1 rs p1)⟩
      · cases hg
    · exact q.elim
end
/-! ### t + u of tuples, u perhaps empty -/
omit [TabEnv] in
def gCat3 : O → O → M D := fun a b c => match tupD a, tupD b with
  | some (d :: ds), some es => if (d :: ds).length + es.length ≤ 1000000 then .ok (.tup ((d :: ds) ++ es)) c else .no
  | _, _ => .no
omit [TabEnv] in
theorem tup_rep {K : PySem.W.Frag} {F : Hp} {μ : List Addr} {σ : St} {v : V} {o : O} {ds : List D} (r : RepO K F μ σ v o) (e : tupD o = some ds) : Rep K F μ v (.tup ds) := by
  unfold tupD at e
  cases r with
  | d r =>
    cases r with
    | tup hs r => cases e; exact .tup hs r
    | _ => cases e
  | sl hs => cases e
theorem r2_cat3 {K : PySem.W.Frag} {W : WX} : R2S K W (rCatT K) gCat3 := fun Z F μ c σ H Q x y a b R rx ry p => by
  unfold gCat3 at p
  split at p
  · next d ds es e1 e2 =>
    have rep := tup_rep rx e1
    obtain ⟨l, vs, rfl, h1, q1⟩ := tup_at R rx e1
    obtain ⟨m, ws, rfl, h2, q2⟩ := tup_at R ry e2
    split at p
    · next hz =>
      have hl : vs.length + ws.length ≤ 1000000 := by rw [q1.length, q2.length]; exact hz
      refine ⟨l, m, vs, ws, rfl, rfl, h1, h2, (fun z => by subst z; cases q1), small6 hl, fun z => ?_, fun _ t ht => ?_⟩
      · subst z
        cases q2
        rw [List.append_nil] at p
        exact p F μ H (Le.refl _ _) R _ rep
      · obtain ⟨R2, l2⟩ := R.new (o := .tup (vs ++ ws)) ht
        exact p _ _ _ l2 R2 _ (.tup (.of upd_same) ((q1.append q2).mono l2))
    · exact p.elim
  · exact p.elim
theorem dd_cat3 {X : Cx} {W : WX} {a b : Expr} {ta tb : TE} {pos : Pos} {K : PySem.W.Frag} {da db : M O} (ha : ED X W a ta da) (hb : ED X W b tb db) (hK : X.K = K := by rfl) : DD X W (.BinOp a .Add b pos) (tOp (rCatT K) ta tb) (dOp gCat3 da db) := by
  subst hK
  exact dd_op op_catT r2_cat3 ha hb
section
variable {X : Cx} {W : WX} {pos : Pos}
/-- a comprehension within another's condition: the frame's K by name -/
theorem en_lcK {W' : WX} {elt tg iter : Expr} {ifs : List Expr} {scope : Scope} {own : List (Str × Nat)} {tl : TE} {vs : List Nat} {g : TG} {tt : TT} {te : TE} {dd : M D} {dg : D → M Unit} {dt : M Bool} {de : M D} {Kk : PySem.W.Frag} (hK : X.K = Kk) (hc : X.calm = true) (hN : X.N.Nodup) (hi : DD X W iter tl dd) (ok : BlkOk X.N X.env.scope scope own)
    (hg : ∀ (s : Shared) (H : Hp) (C : Addr) (cl : List (Str × Addr)) (fp : List Addr), GD (X.blk s H scope (compEnvC scope cl C X.env) fp) tg vs g dg) (ht : ∀ (s : Shared) (H : Hp) (C : Addr) (cl : List (Str × Addr)) (fp : List Addr), TsD (X.blk s H scope (compEnvC scope cl C X.env) fp) W' ifs tt dt)
    (he : ∀ (s : Shared) (H : Hp) (C : Addr) (cl : List (Str × Addr)) (fp : List Addr), DD (X.blk s H scope (compEnvC scope cl C X.env) fp) W' elt te de) (hv : ∀ j ∈ vs, j ∈ own.map (·.2) := by decide) (hs : ∀ x, foldedSetIterable iter X.env x = pure x := by intro _; rfl) :
    EN X W (.ListComp elt [⟨tg, iter, ifs, 0⟩] scope pos) (tLc (iAny Kk tl) g tt te (own.map (·.2))) (dLcA dd dg dt de (own.map (·.2))) := by
  subst hK
  exact en_lcA hc hN hi ok hg ht he hv hs
end
end My

set_option Elab.async false
set_option linter.all false
set_option maxRecDepth 100000
set_option maxHeartbeats 4000000
/-! F30: own exceptions with a field: made by their __init__, raised, the field read. -/
namespace My
open PySem L2
variable [TabEnv]
/-! ### def __init__(self, f): self.f = f -/
omit [TabEnv] in
def spIni (K : PySem.W.Frag) (f : Str) : Sp := fun vs H Q _ => ∃ (a C : Addr) (y : V), vs = [.ref a, y] ∧ OexC K C ∧ PySem.W.findIn K (.ref C) f = some none ∧ H a = some (exo a C none) ∧ ∀ dx, H dx = none → dx ≠ a → Q .non (upd (upd H dx (exd dx [(f, y)])) a (exo a C (some dx)))
omit [TabEnv] in
theorem fn_ini {P : Program} {w : World} {K : PySem.W.Frag} {mg : Str → Option Value} {base : Heap} {qual q f : Str} {st : Stmt} {fI : Addr} {fd : FuncData} {p1 p2 p3 p4 : Pos} (F : Fun K "__init__" qual st fI fd) (S : FnScope ["self", q] ["self", q] (defScope st))
    (hb : defBody st = [.Assign [.Attribute (.Name "self" p1) f p2] (.Name q p3) p4]) (v1 : Vis (defScope st) "self") (v2 : Vis (defScope st) q) (d1 : (q == ("__debug__" : Str)) = false) (d2 : (q == ("__classdict__" : Str)) = false) : FnOk P w K mg base (L2N.CX P w) 1 fI fd ["self", q] (spIni K f) := by
  refine fun_ok F S (fun vs H Q E h => ?_) (fun cdv A outer s H vs Q E hr h => ?_)
  · obtain ⟨a, C, y, rfl, _⟩ := h
    rfl
  · rw [hb]
    refine ⟨_, pss_one (ps_ost (pe_var (i := 0) rfl v1) (pe_var (i := 1) rfl v2 d1 d2)), ?_⟩
    obtain ⟨a, C, y, rfl, T, hn, ha, hq⟩ := h
    exact ⟨y, rfl, .ref a, rfl, a, C, rfl, T, hn, .inl ⟨ha, hq⟩⟩
omit [TabEnv] in
def oexOb (C : Addr) (o : Option Obj) : Bool := match o with
  | some ⟨.type "type", _, .cls cd, sl⟩ => (match cd.mro, sl.toList with
    | .ref C' :: bm, [_, _, _, _, some (.builtin n), _] => C' == C && n == "ValueError.__new__" && !cd.hasDel && cd.hasDict && PySem.HandSPX.refsVE bm
    | _, _ => false)
  | _ => false
omit [TabEnv] in
theorem oex_of {K : PySem.W.Frag} {C : Addr} {oo : Option Obj} (lk : K.lookup C = oo) (h : oexOb C oo = true) (sa : PySem.W.findIn K (.ref C) "__setattr__" = some (some (.builtin "object.__setattr__"))) (e : PySem.W.subIn K (.ref C) (.type "BaseException") = some true)
    (t : PySem.W.typeIn K (.ref C) = some (.type "type")) (k : PySem.W.keepIn K (.ref C) = true) : OexC K C := by
  refine ⟨?_, sa, e, t, k⟩
  rw [← lk] at h
  unfold oexOb at h
  split at h
  · rename_i dd cd sl ho
    split at h
    · rename_i C' bm k0 k1 k2 k3 n k5 hm hs
      simp only [Bool.and_eq_true, beq_iff_eq, Bool.not_eq_true'] at h
      obtain ⟨⟨⟨⟨rfl, rfl⟩, hdel⟩, hdc⟩, hv⟩ := h
      obtain ⟨nm, bs, mro, ns, qn, hd, sn, sub, ab, col, del⟩ := cd
      dsimp only at hm hdel hdc
      subst hm hdel hdc
      have hsl : sl = #[k0, k1, k2, k3, some (.builtin "ValueError.__new__"), k5] := by
        obtain ⟨l⟩ := sl
        simp only at hs
        rw [hs]
      subst hsl
      exact ⟨nm, qn, ns, bs, bm, sn, sub, ab, col, dd, k0, k1, k2, k3, k5, ho, hv⟩
    · cases h
  · cases h
omit [TabEnv] in
/-- a class with a field of its own -/
structure HasX (K : PySem.W.Frag) (mg : Str → Option Value) (x : Str) (C : Addr) (f qual : Str) (st : Stmt) (ps : List Str) : Prop where
  ex : ∃ fI fd, Fun K "__init__" qual st fI fd ∧ PySem.W.findIn K (.ref C) "__init__" = some (some (.ref fI)) ∧ PySem.W.typeIn K (.ref fI) = some (.type "function") ∧ ∀ us : List Value, us.length = ps.length → bindArgs fd ⟨us, []⟩ = pure (ps.zip us)
  o : OexC K C
  n : PySem.W.findIn K (.ref C) f = some none
  m : mg x = some (.ref C)
omit [TabEnv] in
def OkX (P : Program) (w : World) (K : PySem.W.Frag) (mg : Str → Option Value) (base : Heap) (x : Str) (C : Addr) (f : Str) : Prop :=
  OexC K C ∧ PySem.W.findIn K (.ref C) f = some none ∧ mg x = some (.ref C) ∧ ∃ fI fd ps, PySem.W.findIn K (.ref C) "__init__" = some (some (.ref fI)) ∧ PySem.W.typeIn K (.ref fI) = some (.type "function") ∧ FnOk P w K mg base (L2N.CX P w) 1 fI fd ps (spIni K f) ∧ Binds K fd ps []
omit [TabEnv] in
theorem okx_of {P : Program} {w : World} {K : PySem.W.Frag} {mg : Str → Option Value} {base : Heap} {x qual q f : Str} {C : Addr} {st : Stmt} {p1 p2 p3 p4 : Pos} (h : HasX K mg x C f qual st ["self", q]) (S : FnScope ["self", q] ["self", q] (defScope st))
    (hb : defBody st = [.Assign [.Attribute (.Name "self" p1) f p2] (.Name q p3) p4]) (v1 : Vis (defScope st) "self") (v2 : Vis (defScope st) q) (d1 : (q == ("__debug__" : Str)) = false) (d2 : (q == ("__classdict__" : Str)) = false) : OkX P w K mg base x C f := by
  obtain ⟨fI, fd, F, i, t, b⟩ := h.ex
  exact ⟨h.o, h.n, h.m, fI, fd, _, i, t, fn_ini F S hb v1 v2 d1 d2, Binds.all b⟩
omit [TabEnv] in
theorem has_ofX {K : PySem.W.Frag} {h : Heap} {mg : Str → Option Value} {C fI : Addr} {x f qual : Str} {st : Stmt} {ps : List Str} {od an : Option Addr} {sl : Array (Option Value)} {oc kV dc pm cd ct : Value} (X : K.In h) (G : h.Ns mainGlobals mg)
    (b : ∀ (kV doc pm : Value) (an : Option Addr) (cdv ct : Value) (us : List Value), us.length = ps.length → bindArgs (PySem.W.fnOf "__init__" qual (defArgs st) (defBody st) (defScope st) .none kV doc pm an cdv ct) ⟨us, []⟩ = pure (ps.zip us))
    (aC : PySem.W.nsIn K mainGlobals x = some (some (.ref C))) {oo : Option Obj} (lk : K.lookup C = oo) (ox : oexOb C oo = true) (sa : PySem.W.findIn K (.ref C) "__setattr__" = some (some (.builtin "object.__setattr__"))) (eb : PySem.W.subIn K (.ref C) (.type "BaseException") = some true)
    (tc : PySem.W.typeIn K (.ref C) = some (.type "type")) (kc : PySem.W.keepIn K (.ref C) = true) (nf : PySem.W.findIn K (.ref C) f = some none)
    (ini : PySem.W.findIn K (.ref C) "__init__" = some (some (.ref fI))) (ti : PySem.W.typeIn K (.ref fI) = some (.type "function")) (l : K.lookup fI = some ⟨oc, od, .func (PySem.W.fnOf "__init__" qual (defArgs st) (defBody st) (defScope st) .none kV dc pm an cd ct), sl⟩) (c : PySem.W.codeIn K cd qual = true) (k : PySem.W.keepIn K (.ref fI) = true) : HasX K mg x C f qual st ps :=
  let F := fun_mk (st := st) l c k
  ⟨⟨fI, _, F, ini, ti, b kV dc pm an cd ct⟩, oex_of lk ox sa eb tc kc, nf, PySem.W.mg_of X G aC⟩
/-! ### raise C(e) -/
omit [TabEnv] in
def dRaiseF (C : Addr) (f : Str) (dx : M D) : M Fl := M.bind dx fun x c => .ex ⟨.ref C, some (f, x)⟩ c
omit [TabEnv] in
theorem passes_no {X : Cx} : Passes (L2N.CX X.prog X.w) X (fun _ _ _ => False) := fun pins σ H s e s' I h => by
  obtain ⟨_, _, _, _, _, _, _, _, _, _, _, _, hE⟩ := h
  exact hE.elim
omit [TabEnv] in
theorem upd_del {H1 : Hp} {a d : Addr} {o1 o2 o3 o : HO} (na : H1 a = none) (hd : d ≠ a) : upd (del (upd (upd (upd H1 a o1) d o2) a o3) a) d o = upd H1 d o := by
  funext b
  by_cases h1 : b = d
  · subst h1
    rw [upd_same, upd_same]
  · rw [upd_ne h1, upd_ne h1]
    by_cases h2 : b = a
    · subst h2
      rw [del_same, na]
    · rw [del_ne h2, upd_ne h2, upd_ne h1, upd_ne h2]
omit [TabEnv] in
theorem raises_N {X : Cx} {C : Addr} (T : OexC X.K C) : Raises X (.ref C) := raises_own T.exC T.tyC
omit [TabEnv] in
/-- C(e): the exception, whose context is none -/
theorem pmk_oexN {X : Cx} {CX : CXT} {x : Str} {e : Expr} {ta : TA} {p pos : Pos} {C fI : Addr} {k : Nat} {fd : FuncData} {ps : List Str} {sp : Sp} (T : OexC X.K C) (iC : PySem.W.findIn X.K (.ref C) "__init__" = some (some (.ref fI))) (tI : PySem.W.typeIn X.K (.ref fI) = some (.type "function"))
    (F1 : FnOk X.prog X.w X.K X.mg X.base CX k fI fd ps sp) (hr : Room (k + 1) X.A) (hb : Binds X.K fd ps []) (hx : Passes CX X (fun _ _ _ => False)) (hg : Gl X x) (hm : X.mg x = some (.ref C)) (ha : PA X [e] ta)
    (hdb : (x == ("__debug__" : Str)) = false := by decide) (he : starEach [e] X.env = (false, eval e X.env) :: starEach [] X.env := by rfl) (hpl : (backTo pos (starEach [] X.env)).any (·.1) = false := by rfl) :
    L2N.PMk X (.Call (.Name x p) [e] [] pos) (tMkO C sp [] ta) := by
  intro pins s σ H Q I want
  obtain ⟨nm, qn, N, bs, bm, sn, sub, ab, col, dd, s0, s1, s2, s3, s5, inK, tail⟩ := T.cls
  refine wpAny_Call_Name_kw (ld_glob I hg hm ?_ hdb)
  refine PySem.W.callWith_K (h₀ := X.base) I.ok.mod.kin T.kC (thn (ha.run pos pins s σ H _ I want) fun us sA ⟨vs, HA, IA, rv, _, mine⟩ => ⟨IA.kIn, ?_⟩) he hpl
  show wpAny _ _ (call (.ref C) us) _ _ _
  obtain ⟨hp, gs, dr, tk, os⟩ := sA
  let A := hp.objs.size + 1
  have above : hp.objs.size ≤ A := Nat.le_succ _
  have fresh : HA A = none := IA.hok.fresh above
  have todo := mine A fresh
  have old : ∀ b o, hp.get? b = some o → ((hp.push (PySem.W.kdv_tup us)).push (PySem.HandSPX.excO C hp.objs.size)).get? b = some o := fun b o z => Heap.get?_push_of_some _ (Heap.get?_push_of_some _ z)
  have new : ((hp.push (PySem.W.kdv_tup us)).push (PySem.HandSPX.excO C hp.objs.size)).get? (hp.objs.size + 1) = some (PySem.HandSPX.excO C hp.objs.size) := by heap_get
  have IB : Inv X pins σ (upd HA A (exo A C none)) ⟨(hp.push (PySem.W.kdv_tup us)).push (PySem.HandSPX.excO C hp.objs.size), gs, dr, tk, os⟩ :=
    IA.laid (t' := tk) (a := A) (o := exo A C none) (h' := (hp.push (PySem.W.kdv_tup us)).push (PySem.HandSPX.excO C hp.objs.size)) old above (exo_ok new)
  have rB : Vals (V.ref A :: (vs ++ [])) (Value.ref A :: us) := by
    rw [List.append_nil]
    exact .cons rfl rv
  have len : (Value.ref A :: us).length = ps.length := rB.length.symm.trans (F1.len _ _ _ _ todo)
  have few : us.length ≤ sizeLine := by
    rw [← Paired.length rv, sizeLine_eq]
    omega
  have bnd := hb ⟨(hp.push (PySem.W.kdv_tup us)).push (PySem.HandSPX.excO C hp.objs.size), gs, dr, tk, os⟩ (Value.ref A :: us) IB.kIn (by rw [List.append_nil]; exact len)
  rw [List.append_nil] at bnd
  refine wpAny_call (PySem.HandSPX.call_own F.excBase_ValueError (fun Y => PySem.HandSPX.refsVE_contains Y bm tail) (IA.kIn _ _ inK) (PySem.W.looks_findIn IA.kIn iC) (fun self => PySem.W.bind_fn IA.kIn self tI) few
    (codeAny_mono (F1.run _ X.stack _ _ ⟨Value.ref A :: us, []⟩ (Value.ref A :: us) _ _ (fun _ _ _ => False) (hr.make C us []) (IB.env0.make C us []) bnd rB todo) fun r sE hE => ?_))
  cases r with
  | error er => exact hx pins σ _ _ er sE IB hE
  | ok fl =>
    cases fl with
    | ret u =>
      obtain ⟨v, HE, osE, bareE, unE, hokE, rvE, ev, d, fs, ea, ed, hd, last⟩ := hE
      subst ev
      obtain ⟨hE2, gE, dE, tE, oE⟩ := sE
      obtain ⟨t0, G, J, kG, ge, hoe, na⟩ := mk_end0 (d2 := dE) (t2 := tE) IA above old unE hokE osE bareE ea ed hd
      exact ⟨rvE, A, _, _, ⟨G, gE, dE, tE, oE⟩, _, .ref C, some d, rfl, J, kG, ge, hoe, ⟨rfl, rfl, fun vs e => by cases e; rfl⟩, rfl, rfl, na, rfl, bareE, raises_N T, last⟩
    | next => exact hE.elim
    | brk => exact hE.elim
    | cont => exact hE.elim
section
variable {X : Cx} {W : WX} {pos pos' : Pos}
theorem mk_xd {K : PySem.W.Frag} {Z F : Hp} {μ : List Addr} {c : Stt} {σ : St} {H : Hp} {C : Addr} {f : Str} {v : V} {Q : XK} (T : OexC K C) (hn : PySem.W.findIn K (.ref C) f = some none) (R : Rel K Z F μ c σ H)
    (q : ∀ d, H d = none → Q (.ref C) (some d) (upd H d (.xd [(f, v)]))) :
    ([v] : List V).length ≤ 1000 ∧ ∀ a, H a = none → spIni K f (.ref a :: ([v] ++ [])) (upd H a (exo a C none)) (fun v H2 => v = .non ∧ ∃ (d : Addr) (fs : List (Str × V)), H2 a = some (exo a C (some d)) ∧ H2 d = some (exd d fs) ∧ H d = none ∧ Q (.ref C) (some d) (upd (del H2 a) d (.xd fs))) (fun _ _ _ => False) := by
  refine ⟨by simp, fun a na => ⟨a, C, v, rfl, T, hn, upd_same, fun d hd hne => ⟨rfl, d, [(f, v)], upd_same, ?_, ?_, ?_⟩⟩⟩
  · rw [upd_ne hne, upd_same]
  · rw [upd_ne hne] at hd
    exact hd
  · rw [upd_ne hne] at hd
    rw [upd_del na hne]
    exact q d hd
theorem sd_raiseF {K : PySem.W.Frag} {x f : Str} {C : Addr} {e : Expr} {te : TE} {dx : M D} {p : Pos} (h : OkX X.prog X.w X.K X.mg X.base x C f) (hr : Room 2 X.A) (hc : X.calm = true) (tk : L2N.Takes X W) (hg : Gl X x) (ha : DD X W e te dx)
    (hs : starEach [e] X.env = (false, eval e X.env) :: starEach [] X.env := by rfl) (hdb : (x == ("__debug__" : Str)) = false := by decide) (he : starEach [e] X.env = (false, eval e X.env) :: starEach [] X.env := by rfl) (hpl : (backTo pos (starEach [] X.env)).any (·.1) = false := by rfl) (hK : X.K = K := by rfl) :
    SD X W (.Raise (some (.Call (.Name x p) [e] [] pos)) none pos') (fun _ σ H => tMkO C (spIni X.K f) [] (tCons te tNil) σ H fun cls d H' => W cls d σ H') (dRaiseF C f dx) := by
  obtain ⟨o, n, m, fI, fd, ps, iC, tI, F1, hb⟩ := h
  refine ⟨L2N.ps_raise hc tk (pmk_oexN o iC tI F1 hr hb passes_no hg m (pa_cons ha.pe pa_nil hs) hdb he hpl), fun Z F μ c σ H D R p => ?_⟩
  refine ha.ev Z F μ c σ H _ R (p.bind.imp fun y c1 F1 μ1 H1 l1 R1 p1 v r => ?_)
  have key := mk_xd (v := v) (Q := fun cls d H' => W cls d σ H') o n R1 fun d hd => by
    obtain ⟨R2, l2⟩ := R1.new (o := .xd [(f, v)]) hd
    exact p1 (.ref C) (some d) σ _ μ1 _ l2 R2 (.some upd_same (r.mono l2))
  exact key
end
/-! ### e.f, e an exception that is held -/
omit [TabEnv] in
open Classical in
noncomputable def gXf (a : Addr) (od : Option Addr) (cls : Value) (tbl : List Addr) (f : Str) : D → M D := fun x c => match x with
  | .exn a' od' cls' (some (g, y)) => if a' = a ∧ od' = od ∧ cls' = cls ∧ g = f then match cls with
      | .ref C => if C ∈ tbl then .ok y c else .no
      | _ => .no
    else .no
  | _ => .no
omit [TabEnv] in
theorem gXf_ok {a : Addr} {od : Option Addr} {C : Addr} {tbl : List Addr} {f : Str} {y : D} (h : C ∈ tbl) (c : Stt) : gXf a od (.ref C) tbl f (.exn a od (.ref C) (some (f, y))) c = .ok y c := by
  unfold gXf
  dsimp only
  rw [if_pos ⟨rfl, rfl, rfl, rfl⟩, if_pos h]
omit [TabEnv] in
def tXfT (a : Addr) (cls : Value) (d : Option Addr) (tbl : List Addr) (f : Str) (te : TE) : TE := fun σ H Q => te σ H fun x H1 => ∃ C ∈ tbl, x = .ref a ∧ cls = .ref C ∧ ∃ (dd : Addr) (fs : List (Str × V)) (v : V), d = some dd ∧ H1 dd = some (.xd fs) ∧ fs.lookup f = some v ∧ Q v H1
omit [TabEnv] in
theorem pe_xfT {X : Cx} {a : Addr} {oe : Obj} {cls : Value} {d : Option Addr} {pn : List (Addr × Obj)} {e : Expr} {te : TE} {pos : Pos} {n : Str} {tbl : List Addr} (T : ∀ C ∈ tbl, XfC X.K C ∧ PySem.W.findIn X.K (.ref C) n = some none)
    (hz : Zc cls d oe) (hf : ∃ vs, oe.data = .fields vs) (he : PE (X.suite a ((a, oe) :: pn)) e te) (hb : attributeBase e n X.env (eval e X.env) = eval e X.env := by rfl) :
    PE (X.suite a ((a, oe) :: pn)) (.Attribute e n pos) (tXfT a cls d tbl n te) := by
  refine ⟨fun pins s σ H Q I h => attr_of hb (thn (he.run pins s σ H _ I h) fun got sA hgot => ?_)⟩
  obtain ⟨vx, HA, IA, rvx, C, hC, e1, e2, dd, fs, fv, e3, hxd, hlk, fin⟩ := hgot
  subst e1 e2 e3
  cases (show got = Value.ref a from rvx)
  have held := (IA.pin (a, oe) (List.mem_append_left _ List.mem_cons_self)).1
  have okd : ObjOk X.prog X.w HA sA.heap dd (.xd fs) := IA.hok dd _ hxd
  obtain ⟨names, hnames, told⟩ := okd
  obtain ⟨od, hod, hlook⟩ := lookIn_ns hnames
  have same : RelO (some fv) (names n) := by
    rw [← hlk]
    exact told n
  obtain ⟨got, hgot, rgot⟩ := same.some_of
  have nc : PySem.W.notCls oe = true := by
    obtain ⟨vs, hvs⟩ := hf
    unfold PySem.W.notCls
    rw [hvs]
  have inst : PySem.W.InstAt sA.heap a oe C (some od) := ⟨held, hz.1, nc, by rw [hz.2]; exact hod⟩
  obtain ⟨xf, none1⟩ := T C hC
  have found := PySem.W.findObj_own (od := od) xf.hdC none1 rfl (by rw [hlook, hgot])
  exact HandSPX.exc_get IA.kIn inst xf.ga xf.gg xf.exC found (handed_of rgot) ⟨fv, HA, IA.tok _, rgot, fin⟩
section
variable {X0 : Cx} {W : WX} {pos : Pos}
theorem dd_xf {K : PySem.W.Frag} {a0 : Addr} {oe : Obj} {cls : Value} {od : Option Addr} {pn : List (Addr × Obj)} {e : Expr} {te : TE} {de : M D} {f : Str} {tbl : List Addr} (T : ∀ C ∈ tbl, XfC K C ∧ PySem.W.findIn K (.ref C) f = some none)
    (hz : L2N.Zn cls od oe) (hf : ∃ vs, oe.data = .fields vs) (ha : DD (X0.suite a0 ((a0, oe) :: pn)) W e te de) (hb : attributeBase e f X0.env (eval e X0.env) = eval e X0.env := by rfl) (hK : X0.K = K := by rfl) :
    DD (X0.suite a0 ((a0, oe) :: pn)) W (.Attribute e f pos) (tXfT a0 cls od tbl f te) (M.bind de (gXf a0 od cls tbl f)) := by
  subst hK
  refine ⟨pe_xfT T hz.zc hf ha.pe hb, fun Z F μ c σ H Q R p => ha.ev Z F μ c σ H _ R (p.bind.imp fun x c3 F1 μ1 H1 l1 R1 p1 v1 r1 => ?_)⟩
  unfold gXf at p1
  split at p1
  · next a' od' cls' g y =>
    split at p1
    · next hs =>
      obtain ⟨rfl, rfl, rfl, rfl⟩ := hs
      split at p1
      · next C =>
        split at p1
        · next hm =>
          cases r1 with
          | @exn1 _ dd _ _ fv _ h r => exact ⟨C, hm, rfl, rfl, dd, _, fv, rfl, R1.ex _ _ h, by simp [List.lookup], p1 F1 μ1 H1 (Le.refl _ _) R1 fv r⟩
        · exact p1.elim
      · exact p1.elim
    · exact p1.elim
  · exact p1.elim
end
/-! ### C(e).f: made by hand, looked at, let go -/
omit [TabEnv] in
theorem inv_more {X : Cx} {pins : List (Addr × Obj)} {σ : St} {H : Hp} {s s' : Shared} (I : Inv X pins σ H s) (k : ∀ b o, s.heap.get? b = some o → s'.heap.get? b = some o) (os : s'.os = s.os) (ag : PyProof.Rows.AllBare s'.gens) : Inv X pins σ H s' := by
  have U : Un (frs X.stack) [] H H s.heap s'.heap := {
    keep := fun b o z _ _ _ => k b o z
    slot := fun b o z _ _ _ => ⟨o.slots, k b o z⟩
    free := fun b o _ n _ => n
    there := fun b o z _ => ⟨o, k b o z⟩
    tups := fun b xs z => z
    frzs := fun b o v z => z
    tbls := fun b ps z => ⟨#[], by simpa using z⟩ }
  exact I.call' (ch := []) os U (fun b o z => (I.hok b o z).stay (fun c v _ y => k c v y) (fun _ h => h) (fun _ _ h => h)) ag (fun b z => absurd z (by simp))
section
variable {X : Cx} {W : WX} {pos pos' : Pos}
theorem pe_made {x f : Str} {C : Addr} {e : Expr} {te : TE} {p : Pos} (h : OkX X.prog X.w X.K X.mg X.base x C f) (xc : XfC X.K C) (hr : Room 2 X.A) (hg : Gl X x) (ha : PE X e te)
    (hs : starEach [e] X.env = (false, eval e X.env) :: starEach [] X.env := by rfl) (hdb : (x == ("__debug__" : Str)) = false := by decide) (he : starEach [e] X.env = (false, eval e X.env) :: starEach [] X.env := by rfl) (hpl : (backTo pos (starEach [] X.env)).any (·.1) = false := by rfl)
    (hb : attributeBase (.Call (.Name x p) [e] [] pos) f X.env (eval (.Call (.Name x p) [e] [] pos) X.env) = eval (.Call (.Name x p) [e] [] pos) X.env := by rfl) :
    PE X (.Attribute (.Call (.Name x p) [e] [] pos) f pos') (fun σ H Q => tMkO C (spIni X.K f) [] (tCons te tNil) σ H fun cls d H' => cls = .ref C ∧ ∃ (dd : Addr) (fs : List (Str × V)) (v : V), d = some dd ∧ H' dd = some (.xd fs) ∧ fs.lookup f = some v ∧ Q v H') := by
  obtain ⟨o, nf, m, fI, fd, ps, iC, tI, F1, hbd⟩ := h
  refine ⟨fun pins s σ H Q I h => attr_of hb (thn (pmk_oexN o iC tI F1 hr hbd passes_no hg m (pa_cons ha pa_nil hs) hdb he hpl pins s σ H _ I h) fun got sA hgot => ?_)⟩
  obtain ⟨a, oe, vs, sI, HA, cls, d, eu, J, k, hne, hge, hz, hd, h1, na, os, ag, _, e2, dd, fs, fv, e3, hxd, hlk, fin⟩ := hgot
  subst eu e2 e3
  have IA := inv_more J k os ag
  have okd : ObjOk X.prog X.w HA sA.heap dd (.xd fs) := IA.hok dd _ hxd
  obtain ⟨names, hnames, told⟩ := okd
  obtain ⟨od, hod, hlook⟩ := lookIn_ns hnames
  have same : RelO (some fv) (names f) := by
    rw [← hlk]
    exact told f
  obtain ⟨got, hgot, rgot⟩ := same.some_of
  have nc : PySem.W.notCls oe = true := by
    unfold PySem.W.notCls
    rw [hd]
  have inst : PySem.W.InstAt sA.heap a oe C (some od) := ⟨hge, hz.zc.1, nc, by rw [hz.zc.2]; exact hod⟩
  have found := PySem.W.findObj_own (od := od) xc.hdC nf rfl (by rw [hlook, hgot])
  exact HandSPX.exc_get IA.kIn inst xc.ga xc.gg xc.exC found (handed_of rgot) ⟨fv, HA, IA.tok _, rgot, fin⟩
theorem _root_.My.Post.fwd {K : PySem.W.Frag} {Z F : Hp} {μ : List Addr} {σ : St} {W : WX} {α : Type} {r : R α} {P : α → Stt → Hp → List Addr → Hp → Prop} (h : Post K Z F μ σ W r P) :
    Post K Z F μ σ W r (fun a c F' μ' H' => ∀ F2 μ2 H2, Le F' μ' F2 μ2 → Rel K Z F2 μ2 c σ H2 → P a c F2 μ2 H2) := by
  cases r with
  | ok a c => exact fun F1 μ1 H1 l1 _ F2 μ2 H2 l2 R2 => h F2 μ2 H2 (l1.trans l2) R2
  | ex e c => exact h
  | no => exact h
theorem dd_made {K : PySem.W.Frag} {x f : Str} {C : Addr} {e : Expr} {te : TE} {dx : M D} {p : Pos} (h : OkX X.prog X.w X.K X.mg X.base x C f) (xc : XfC K C) (hr : Room 2 X.A) (hg : Gl X x) (ha : DD X W e te dx)
    (hs : starEach [e] X.env = (false, eval e X.env) :: starEach [] X.env := by rfl) (hdb : (x == ("__debug__" : Str)) = false := by decide) (he : starEach [e] X.env = (false, eval e X.env) :: starEach [] X.env := by rfl) (hpl : (backTo pos (starEach [] X.env)).any (·.1) = false := by rfl)
    (hb : attributeBase (.Call (.Name x p) [e] [] pos) f X.env (eval (.Call (.Name x p) [e] [] pos) X.env) = eval (.Call (.Name x p) [e] [] pos) X.env := by rfl) (hK : X.K = K := by rfl) :
    DD X W (.Attribute (.Call (.Name x p) [e] [] pos) f pos') (fun σ H Q => tMkO C (spIni X.K f) [] (tCons te tNil) σ H fun cls d H' => cls = .ref C ∧ ∃ (dd : Addr) (fs : List (Str × V)) (v : V), d = some dd ∧ H' dd = some (.xd fs) ∧ fs.lookup f = some v ∧ Q v H') dx := by
  subst hK
  refine ⟨pe_made h xc hr hg ha.pe hs hdb he hpl hb, fun Z F μ c σ H Q R p => ?_⟩
  refine ha.ev Z F μ c σ H _ R (p.fwd.imp fun y c1 F1 μ1 H1 l1 R1 p1 v r => ?_)
  have key := mk_xd (v := v) (Q := fun cls d H' => cls = .ref C ∧ ∃ (dd : Addr) (fs : List (Str × V)) (v : V), d = some dd ∧ H' dd = some (.xd fs) ∧ fs.lookup f = some v ∧ Q v H') h.1 h.2.1 R1 fun d hd => by
    obtain ⟨R2, l2⟩ := R1.new (o := .xd [(f, v)]) hd
    exact ⟨rfl, d, _, v, rfl, upd_same, by simp [List.lookup], p1 _ _ _ l2 R2 v (r.mono l2)⟩
  exact key
end
end My

set_option Elab.async false
set_option linter.all false
set_option maxRecDepth 100000
set_option maxHeartbeats 4000000
/-! F31: a def that is handed a held exception. -/
namespace My
open PySem PySem.Spec PyProof.Rows L2
variable [TabEnv]
omit [TabEnv] in
/-- what a def does where p's object stands, out of reach -/
def FnP (P : Program) (w : World) (K : PySem.W.Frag) (mg : Str → Option Value) (base : Heap) (k : Nat) (f : Addr) (fd : FuncData) (ps : List Str) (p : Addr × Obj) (sp : Sp) : Prop :=
  (∀ vs H Q E, sp vs H Q E → vs.length = ps.length) ∧ ∀ (A : Around) (outer : List Env) (s : Shared) (H : Hp) (args : Args) (us : List Value) (vs : List V) (Q : VK) (E : XK), L2H.RoomH k A → L2H.PinOk outer H s p → Env0 P w K mg base A outer s H → BindsTo s fd args (ps.zip us) → Vals vs us → sp vs H Q E →
    codeAny (model P w) A (.call (.ref f) args) (CR (L2N.CX P w) outer P w H s Q E) s
theorem ev_start {K : PySem.W.Frag} {N : List Str} {k : Nat} {b : M Fl} {t : TS} {vs : List V} {H : Hp} {Q : VK} {E : XK} (hN : k ≤ N.length) (ev : StS K (fun cls d _ H => E cls d H) t b) (h : spG K (runD N.length k b) vs H Q E) :
    t { nx := fun _ H' => Q .non H', rt := Q } (L2.start N vs) H := by
  obtain ⟨Z, F, μ, S, ds, R, rs, p⟩ := h
  unfold runD at p
  split at p
  · next hl =>
    refine ev Z F μ _ _ H _ (rel_start R rs hl hN) ?_
    have strip : ∀ {F' : Hp} {μ' : List Addr} {c : Stt} {σ' : L2.St} {H' : Hp}, Rel K Z F' μ' c σ' H' → Rel K Z F' μ' ⟨[], c.S⟩ [] H' := fun h =>
      { ex := h.ex, exz := h.exz, fz := h.fz, len := rfl, slot := fun i x e => by simp at e, own := fun i x e => by simp at e, dis := fun i j a m m' e => by simp at e, lm := h.lm, sto := h.sto, dst := fun i n a m e => by simp at e, ndm := h.ndm, tab := h.tab }
    cases e : b ⟨ds.map .d ++ List.replicate (N.length - k) .no, S⟩ with
    | no => rw [e] at p; exact p.elim
    | ex x c => rw [e] at p; exact fun cls od σ' F' μ' H' l R' rx => p cls od F' μ' H' l (strip R') rx
    | ok fl c =>
      rw [e] at p
      cases fl with
      | nx => exact fun σ' F' μ' H' l R' => p .non F' μ' H' l (strip R') (.v _)
      | rt d => exact fun v σ' F' μ' H' l R' rv => p v F' μ' H' l (strip R') rv
      | bk => exact p.elim
      | ct => exact p.elim
  · exact p.elim
theorem fn_pin {P : Program} {w : World} {K : PySem.W.Frag} {mg : Str → Option Value} {base : Heap} {x qual : Str} {st : Stmt} {f : Addr} {fd : FuncData} {N ps : List Str} {j k : Nat} {b : M Fl} {p : Addr × Obj} (F : Fun K x qual st f fd) (S : FnScope N ps (defScope st)) (hk : ps.length = k) (hN : k ≤ N.length)
    (body : ∀ (cdv : Value) (A : Around) (outer : List Env) (s : Shared) (H : Hp) (E : XK), ∃ t, BD (L2H.cxH (L2N.CX P w) P w K mg base N qual (defScope st) f cdv A outer s H E p) (fun cls d _ H => E cls d H) (defBody st) t b) :
    FnP P w K mg base (j + 1) f fd ps p (spG K (runD N.length k b)) := by
  obtain ⟨oc, od, kV, doc, pm, an, cdv, ct, osl, rfl, lk, hcd⟩ := F.ex
  have len : ∀ vs H Q E, spG K (runD N.length k b) vs H Q E → vs.length = ps.length := fun vs H Q E h => by
    obtain ⟨Z, F, μ, S, ds, _, rs, p⟩ := h
    unfold runD at p
    split at p
    · next hl => rw [rs.length, hl, hk]
    · exact p.elim
  refine ⟨len, fun A outer s H args us vs Q E room pin env bnd vals want => ?_⟩
  have inH : K.In s.heap := env.mod.kin.keeps fun a q z => (env.bs a q z).1
  have noLim : s.heap.NoLimit := env.mod.nolimit.keeps fun a q z => (env.bs a q z).1
  have kinds : ∀ y ∈ ps.zip us, (defScope st).names.lookup y.1 = some .local ∨ ((defScope st).names.lookup y.1 = some .cell ∧ ((cellsFrom (s.heap.objs.size + 1) (defScope st).names []).lookup y.1).isSome = true) := fun ⟨n, v⟩ hy => by
    rcases S.par n (List.of_mem_zip hy).1 with q | q
    · exact .inl q
    · exact .inr ⟨q, PySem.W.cellsFrom_some _ _ _ (.inl q)⟩
  refine codeAny_call_function room.depth (inH _ _ lk) rfl S.co S.gen rfl (PySem.W.codeRec_of inH hcd) (bnd _ _ _ _ ?_)
  refine wpAny_newFunctionEnv_cells S.kind kinds fun envN heN sN inC => ?_
  subst heN
  refine ⟨noLim.keeps inC.toInCall.keep, codeAny_func ?_⟩
  obtain ⟨t, B⟩ := body cdv A outer s H E
  have I := L2H.inv_startH (CX := L2N.CX P w) (w := w) (E := E) S pin env (len _ _ _ _ want) vals inC
  refine wpAny_mono (B.ps.run [] sN (L2.start N vs) H _ I (ev_start hN B.ev want)) (fun fl sE hE => ?_) fun e sE hE => hE
  cases fl with
  | ret u =>
    obtain ⟨v, σE, HE, J, rv, q⟩ := hE
    exact ⟨v, HE, J.os, J.bare, J.base, J.hok, rv, q⟩
  | next =>
    obtain ⟨σE, HE, J, q⟩ := hE
    exact ⟨V.non, HE, J.os, J.bare, J.base, J.hok, rfl, q⟩
  | brk =>
    obtain ⟨_, _, _, q⟩ := hE
    exact q.elim
  | cont =>
    obtain ⟨_, _, _, q⟩ := hE
    exact q.elim
def OkP (P : Program) (w : World) (K : PySem.W.Frag) (mg : Str → Option Value) (base : Heap) (k : Nat) (x : Str) (ps : List Str) (g : Addr → Option Addr → Value → G) : Prop :=
  ∃ f fd, mg x = some (.ref f) ∧ PySem.W.keepIn K (.ref f) = true ∧ (∀ us : List Value, us.length = ps.length → bindArgs fd ⟨us, []⟩ = pure (ps.zip us)) ∧
    ∀ a oe cls d, L2N.Zn cls d oe → (∃ vs, oe.data = .fields vs) → FnP P w K mg base k f fd ps (a, oe) (spG K (g a d cls))
theorem okp_has {P : Program} {w : World} {K : PySem.W.Frag} {mg : Str → Option Value} {base : Heap} {x qual : Str} {st : Stmt} {N ps : List Str} {j k : Nat} {b : Addr → Option Addr → Value → M Fl} (h : Has K mg x qual st ps) (S : FnScope N ps (defScope st)) (hk : ps.length = k) (hN : k ≤ N.length)
    (body : ∀ (a : Addr) (oe : Obj) (cls : Value) (d : Option Addr), L2N.Zn cls d oe → (∃ vs, oe.data = .fields vs) → ∀ (f : Addr) (cdv : Value) (A : Around) (outer : List Env) (s : Shared) (H : Hp) (E : XK),
      ∃ t, BD (L2H.cxH (L2N.CX P w) P w K mg base N qual (defScope st) f cdv A outer s H E (a, oe)) (fun cls d _ H => E cls d H) (defBody st) t (b a d cls)) : OkP P w K mg base (j + 1) x ps (fun a d cls => runD N.length k (b a d cls)) := by
  obtain ⟨f, fd, F, hm, hb⟩ := h
  exact ⟨f, fd, hm, F.kp, hb, fun a oe cls d hz hv => fn_pin F S hk hN (body a oe cls d hz hv f)⟩
section
variable {X : Cx} {W : WX} {pos : Pos}
theorem pe_callP {k : Nat} {f : Addr} {fd : FuncData} {ps : List Str} {sp : Sp} {x : Str} {q : Pos} {e : Expr} {es : List Expr} {t : TA} {p0 : Addr × Obj} (hp : p0 ∈ X.pn) (F : FnP X.prog X.w X.K X.mg X.base k f fd ps p0 sp) (hr : L2H.RoomH k X.A) (hg : Gl X x) (hm : X.mg x = some (.ref f)) (hk : PySem.W.keepIn X.K (.ref f) = true) (hb : Binds X.K fd ps [])
    (ha : PA X (e :: es) t) (hdb : (x == ("__debug__" : Str)) = false := by decide) (he : starEach (e :: es) X.env = (false, eval e X.env) :: starEach es X.env := by rfl) (hpl : (backTo pos (starEach es X.env)).any (·.1) = false := by rfl) :
    PE X (.Call (.Name x q) (e :: es) [] pos) (tCallS sp (fun _ _ _ _ => False) t) := by
  refine ⟨fun pins s σ H Q I h => wpAny_Call_Name_kw (ld_glob I hg hm ?_ hdb)⟩
  refine PySem.W.callWith_K (h₀ := X.base) I.ok.mod.kin hk (thn (ha.run pos pins s σ H _ I h) fun us s1 ⟨vs, H1, I1, r, want⟩ => ⟨I1.kIn, ?_⟩) he hpl
  have hl : us.length = ps.length := r.length.symm.trans (F.1 _ _ _ _ want)
  have bnd := hb s1 us I1.kIn (by rw [List.append_nil]; exact hl)
  rw [List.append_nil] at bnd
  obtain ⟨g1, g2, g3, g4, g5⟩ := I1.pin p0 (List.mem_append_left _ hp)
  have pin : L2H.PinOk X.stack H1 s1 p0 := ⟨g1, g2, fun z => (List.mem_cons.mp (I1.stkSub p0.1 z)).elim g3 g4, g5⟩
  refine wpAny_call (codeAny_mono (F.2 X.A X.stack s1 H1 ⟨us, []⟩ us vs Q (fun _ _ _ => False) hr pin I1.env0 bnd r want) fun r s' hq => ?_)
  cases r with
  | error e => exact passes_no pins σ H1 s1 e s' I1 hq
  | ok fl =>
    cases fl with
    | ret u => exact I1.after hq
    | next => exact hq.elim
    | brk => exact hq.elim
    | cont => exact hq.elim
theorem dd_callP {K : PySem.W.Frag} {k : Nat} {ps : List Str} {g : Addr → Option Addr → Value → G} {x : Str} {q : Pos} {a : Expr} {es : List Expr} {tr : TA} {dr : M (List D)} {a0 : Addr} {oe : Obj} {cls : Value} {d : Option Addr} (h : OkP X.prog X.w X.K X.mg X.base k x ps g) (hp : (a0, oe) ∈ X.pn) (hz : L2N.Zn cls d oe) (hv : ∃ vs, oe.data = .fields vs) (hr : L2H.RoomH k X.A) (hg : Gl X x)
    (ha : AD X W0 (a :: es) tr dr)
    (hdb : (x == ("__debug__" : Str)) = false := by decide) (he : starEach (a :: es) X.env = (false, eval a X.env) :: starEach es X.env := by rfl) (hpl : (backTo pos (starEach es X.env)).any (·.1) = false := by rfl) (hK : X.K = K := by rfl) :
    DD X W0 (.Call (.Name x q) (a :: es) [] pos) (tCallS (spG K (g a0 d cls)) (fun _ _ _ _ => False) tr) (dCall (g a0 d cls) dr) := by
  subst hK
  obtain ⟨f, fd, hm, hk, hb, hF⟩ := h
  exact ⟨pe_callP hp (hF a0 oe cls d hz hv) hr hg hm hk (Binds.all hb) ha.pa hdb he hpl, fun Z F μ c σ H Q R p => ha.ev Z F μ c σ H _ R (p.bind.imp fun ds c1 F1 μ1 H1 l1 R1 p1 vs rs => sp_call R1 rs p1)⟩
end
end My

set_option Elab.async false
set_option linter.all false
set_option maxRecDepth 100000
set_option maxHeartbeats 4000000
/-! F32: sorted(texts), of a list or a tuple. -/
namespace My
open PySem PySem.Spec PyProof.Rows L2
variable [TabEnv]
omit [TabEnv] in
def leS (a b : Str) : Prop := a.cps.toList ≤ b.cps.toList
omit [TabEnv] in
theorem leS_trans {a b c : Str} (h : leS a b) (k : leS b c) : leS a c := List.le_trans h k
omit [TabEnv] in
theorem leS_anti {a b : Str} (h : leS a b) (k : leS b a) : a = b := by
  have e : a.cps.toList = b.cps.toList := List.le_antisymm h k
  obtain ⟨⟨x⟩⟩ := a
  obtain ⟨⟨y⟩⟩ := b
  cases e
  rfl
omit [TabEnv] in
theorem leS_total (a b : Str) : leS a b ∨ leS b a := List.le_total _ _
omit [TabEnv] in
theorem rising_pw : ∀ {l : List Str} {p : Str}, risingS p l = true → (p :: l).Pairwise leS
  | [], p, _ => List.pairwise_cons.mpr ⟨fun _ h => absurd h List.not_mem_nil, List.Pairwise.nil⟩
  | x :: r, p, h => by
    have h : (!ltCps x.cps.toList p.cps.toList && risingS x r) = true := h
    obtain ⟨h1, h2⟩ := Bool.and_eq_true_iff.mp h
    have ih := rising_pw h2
    have px : leS p x := by
      rw [ltCps_eq] at h1
      have : ¬ x.cps.toList < p.cps.toList := by simpa using h1
      exact this
    refine List.pairwise_cons.mpr ⟨fun y hy => ?_, ih⟩
    rcases List.mem_cons.mp hy with rfl | hy
    · exact px
    · exact leS_trans px ((List.pairwise_cons.mp ih).1 y hy)
omit [TabEnv] in
theorem sortedS_pw {l : List Str} (h : sortedS l = true) : l.Pairwise leS := by
  cases l with
  | nil => exact List.Pairwise.nil
  | cons x r => exact rising_pw h
omit [TabEnv] in
open Classical in
noncomputable def sortS (xs : List Str) : List Str := if h : ∃ ys : List Str, ys.Perm xs ∧ sortedS ys = true then h.choose else []
omit [TabEnv] in
theorem sortS_of {xs ys : List Str} (h : ys.Perm xs) (k : sortedS ys = true) : sortS xs = ys := by
  have e : ∃ ys : List Str, ys.Perm xs ∧ sortedS ys = true := ⟨ys, h, k⟩
  unfold sortS
  rw [dif_pos e]
  exact List.Perm.eq_of_pairwise (le := leS) (fun a b _ _ => leS_anti) (sortedS_pw e.choose_spec.2) (sortedS_pw k) (e.choose_spec.1.trans h.symm)
omit [TabEnv] in
def rSortTS (K : PySem.W.Frag) : List V → Hp → VK → Prop := fun vs H Q => ∃ (a : Addr) (xs : List Str), vs = [V.ref a] ∧ (SqL K H a (xs.map V.str) ∨ SqT K H a (xs.map V.str)) ∧
  ∀ (ys : List Str) (p : Addr), ys.Perm xs → sortedS ys = true → H p = none → Q (.ref p) (upd H p (.lst (ys.map V.str)))
omit [TabEnv] in
theorem cr_sortTS {X : Cx} : CallR X (.builtin "sorted") (rSortTS X.K) := by
  intro pins s σ H vs us Q I r h
  obtain ⟨a, xs, rfl, hs, want⟩ := h
  rw [Vals.ref1 r]
  have got : ∃ (its : List Value) (T : String) (o : Obj) (n : Nat), Vals (xs.map V.str) its ∧ (T = "list" ∨ T = "tuple") ∧ s.heap.get? a = some o ∧ o.cls = .type T ∧ o.data = .seq its.toArray n ∧ (xs.map V.str).length ≤ sizeLine := by
    rcases hs with hs | hs
    · obtain ⟨its, rv, ⟨o, n, ho, hc, _, hd⟩, hz⟩ := I.list hs
      exact ⟨its, "list", o, n, rv, .inl rfl, ho, hc, hd, hz⟩
    · obtain ⟨its, rv, ⟨o, ho, hc, n, hd⟩, hz⟩ := I.tuple hs
      exact ⟨its, "tuple", o, n, rv, .inr rfl, ho, hc, hd, hz⟩
  obtain ⟨its, T, o, n, rv, hT, ho, hc, hd, hz⟩ := got
  have hS := rv.strs
  have hl0 := rv.length
  have hL : its.length ≤ sizeLine := by rw [← hl0]; exact hz
  refine Calls.call_function_entry kind_sorted plain_sorted entry_sorted (args_sorted1 _) ?_
  unfold Builtin.«sorted»
  refine wpAny_bind (m := checkCount "sorted" 1 1 _) (wpAny_pure ?_)
  refine wpAny_bind (wpAny_collect_seq a hT ho hc hd (fun g kept => ?_) (by simpa using hL))
  refine wpAny_bind (wpAny_newList ?_)
  have J : Inv X pins σ H { s with heap := g } := I.kept (t' := s.toks) kept
  have hoL : (g.push (seqObj "list" its.toArray 0)).get? g.objs.size = some (seqObj "list" its.toArray 0) := Heap.get?_push_size _ rfl
  refine wpAny_bind (wpAny_holding (wpAny_call_entry slot_list_sort ⟨_, hoL, rfl⟩ entry_list_sort (list_sort_treeKAny strKind_oneLt hoL hS.keysOf (fun v1 v2 rest e => keyKind_strs (by rw [← e]; exact hS)) hL fun st hp hso => ⟨_, rfl, ?_⟩) (args_list_sort _)))
  obtain ⟨ys, y1, y2, y3⟩ := sorted_out_str hS hp hso
  obtain ⟨ep, he⟩ := sortedHeap_at (vs := its) (out := (arrOf st).map (·.2)) hoL
  have hn : H g.objs.size = none := J.hok.fresh (Nat.le_refl _)
  have hlen : (ys.map V.str).length ≤ sizeLine := by
    rw [List.length_map, y2.length_eq]
    rw [List.length_map] at hz
    exact hz
  refine wpAny_pure ⟨_, rfl, ?_⟩
  refine ⟨.ref _, upd H g.objs.size (.lst (ys.map V.str)), J.laid (t' := s.toks) (a := g.objs.size) (fun b u e => ?_) (Nat.le_refl _) ⟨hlen, ((arrOf st).map (·.2)).toList, ep, vals_of_strs y1, he⟩, rfl, want ys _ y2 y3 hn⟩
  have hb : b < g.objs.size := Heap.lt_size e
  rw [sortedHeap_old (Nat.ne_of_lt hb) (by rw [size_push']; exact Nat.lt_succ_of_lt hb)]
  exact Heap.get?_push_of_some _ e
omit [TabEnv] in
noncomputable def gSortS : O → M D := fun o c => match strsO c o with
  | some ss => .ok (.lst ((sortS ss).map fun p => D.v (V.str p))) c
  | none => .no
theorem reps_strs {K : PySem.W.Frag} {F : Hp} {μ : List Addr} : ∀ ss : List Str, Reps K F μ (ss.map V.str) (ss.map fun p => D.v (V.str p))
  | [] => .nil
  | s :: r => .cons (.v _) (reps_strs r)
theorem c1_sortS {K : PySem.W.Frag} {W : WX} : C1S K W (rSortTS K) gSortS := fun Z F μ c σ H Q x a R r p => by
  unfold gSortS strsO at p
  cases q : seqD c a with
  | none => rw [q] at p; exact p.elim
  | some ds =>
    rw [q] at p
    dsimp only [Option.bind] at p
    cases e2 : strsD ds with
    | none => rw [e2] at p; exact p.elim
    | some ss =>
      rw [e2] at p
      dsimp only at p
      obtain ⟨l, vs, rfl, h1, rs⟩ := seq_at R r q
      have := strs_of rs e2
      subst this
      refine ⟨l, ss, rfl, h1, fun ys pa y2 y3 hn => ?_⟩
      rw [sortS_of y2 y3] at p
      obtain ⟨R2, l2⟩ := R.new (o := .lst (ys.map V.str)) hn
      exact p _ _ _ l2 R2 _ (.lst upd_same (reps_strs ys))
theorem bSortS {X : Cx} {W : WX} {K : PySem.W.Frag} (hK : X.K = K := by rfl) : B1 X W (.builtin "sorted") (rSortTS K) gSortS := by
  subst hK
  exact ⟨cr_sortTS, c1_sortS⟩
end My

set_option Elab.async false
set_option linter.all false
set_option maxRecDepth 100000
set_option maxHeartbeats 4000000
/-! F33: comprehensions within an except suite. -/
namespace My
open PySem PySem.Spec PyProof.Rows L2
variable [TabEnv]
omit [TabEnv] in
/-- the block of a comprehension, where p's object is the handled exception -/
abbrev blkP (X : Cx) (s : Shared) (H : Hp) (scope : Scope) (cenv : Env) (fp : List Addr) (p : Addr × Obj) : Cx := { X.blk s H scope cenv fp with pn := [p] }
section
variable {X : Cx}
omit [TabEnv] in
theorem inv_blkP {s s' : Shared} {H H' : Hp} {scope : Scope} {cenv : Env} {fp : List Addr} {p : Addr × Obj} {σ : L2.St} (I : Inv (X.blk s H scope cenv fp) [] σ H' s') (g : s'.heap.get? p.1 = some p.2) (n : H' p.1 = none) (nl : p.1 ≠ cenv.locals) (nf : p.1 ∉ (X.blk s H scope cenv fp).fs) (nc : ∀ v, p.2.data ≠ .cell v) :
    Inv (blkP X s H scope cenv fp p) [] σ H' s' := by
  obtain ⟨a1, a2, a3, a4, a5, a6, a7, a8, a9, b1, b2⟩ := I
  obtain ⟨c1, c2, c3, c4, c5, c6, c7, c8, c9, d1, d2, d3, d4, d5, d6, d7, d8, d9⟩ := a1
  refine ⟨⟨c1, c2, c3, c4, c5, c6, c7, c8, c9, d1, d2, d3, d4, d5, d6, d7, d8, d9⟩, a2, a3, a4, a5, a6, a7, a8, fun q hq => ?_, b1, b2⟩
  have e : q = p := by simpa using (show q ∈ [p] ++ ([] : List (Addr × Obj)) from hq)
  rw [e]
  exact ⟨g, n, nl, nf, nc⟩
omit [TabEnv] in
theorem lcH_core {pins : List (Addr × Obj)} {s : Shared} {σ : L2.St} {H : Hp} {Q : VK} {elt tg iter : Expr} {ifs : List Expr} {scope : Scope} {own : List (Str × Nat)} {pos pos' : Pos} {wi : TI} {g : TG} {tt : TT} {te : TE} {use : Option (Value → Sem Unit)} {Qf : Value → Shared → Prop} {p0 : Addr × Obj}
    (hot : L2H.Hot1 X.A p0) (hp0 : p0 ∈ X.pn) (hN : X.N.Nodup) (I : Inv X pins σ H s) (hi : L2H.PIH X tg iter wi) (ok : BlkOk X.N X.env.scope scope own)
    (hg : ∀ (s : Shared) (H : Hp) (C : Addr) (cl : List (Str × Addr)) (fp : List Addr), PG (blkP X s H scope (compEnvC scope cl C X.env) fp p0) tg g) (ht : ∀ (s : Shared) (H : Hp) (C : Addr) (cl : List (Str × Addr)) (fp : List Addr), PTs (blkP X s H scope (compEnvC scope cl C X.env) fp p0) ifs tt)
    (he : ∀ (s : Shared) (H : Hp) (C : Addr) (cl : List (Str × Addr)) (fp : List Addr), PE (blkP X s H scope (compEnvC scope cl C X.env) fp p0) elt te) (hs : ∀ x, foldedSetIterable iter X.env x = pure x)
    (h : tLc wi g tt te (own.map (·.2)) σ H Q)
    (out : ∀ D C s' m H', Inv X pins σ H' s' → Q (.ref D) H' → s'.heap.Ns C m → FpOk X pins H' C → compPost (model X.prog X.w) X.A X.xe use Qf (.ref D) C (.ok .next) s') :
    wpAny (model X.prog X.w) X.A (comprehension (.ListComp elt [⟨tg, iter, ifs, 0⟩] scope pos) scope X.env pos' (newList []) false (eval iter X.env) use) Qf X.xe s := by
  have freed : ∀ y ∈ scope.names, y.2 = .free → ∃ c, X.env.cells.lookup y.1 = some c := fun y hy e => (ok.free y hy e).elim (fun z => I.ok.has _ (.inl z)) fun z => I.ok.has _ (.inr z)
  refine wpAny_comprehension_free (use := use) rfl hs (closure_ok freed) ok.kind (fun y hy e => by rw [ok.uniq y hy, e])
    (thn (hi.run pins s σ H _ I h) fun xv sA hx => thn hx fun itv sB hB => ?_)
  obtain ⟨it, fp, tn, J, HB, eit, IB, T, stB, fB, rest⟩ := hB
  subst eit
  refine wpAny_newObj_type (newEnv_comp ?_) (Nat.zero_le _)
  generalize eD : sB.heap.objs.size = D
  have freeD : HB D = none := IB.hok.fresh (Nat.le_of_eq eD)
  obtain ⟨Wk, ⟨k0, first⟩, turn⟩ := rest D freeD
  generalize eC : ({ sB with heap := sB.heap.push { cls := .type "list", data := .seq ([] : List Value).toArray } } : Shared) = sC
  have IC : Inv X pins σ (upd HB D (.lst [])) sC := by
    rw [← eC]
    refine IB.laid (t' := sB.toks) (fun b o e => Heap.get?_push_of_some _ e) (Nat.le_of_eq eD) ⟨Nat.zero_le _, [], 0, .nil, ?_⟩
    rw [← eD]
    exact Heap.get?_push_size _ rfl
  have hC : sC.heap = sB.heap.push { cls := .type "list", data := .seq ([] : List Value).toArray } := by rw [← eC]
  have below : ∀ b ∈ fp, b < sB.heap.objs.size := fun b hb => by
    obtain ⟨o, e, _⟩ := T.obj _ _ stB b hb
    exact Heap.lt_size e
  have fC : ∀ b ∈ fp, FpOk X pins (upd HB D (.lst [])) b ∧ b < sC.heap.objs.size := fun b hb => by
    have hlt := below b hb
    refine ⟨⟨?_, (fB b hb).2⟩, by rw [hC, Heap.size_push]; exact Nat.lt_succ_of_lt hlt⟩
    rw [upd_ne (by rw [← eD]; exact Nat.ne_of_lt hlt)]
    exact (fB b hb).1
  have stC : tn 0 sC.heap := T.keep _ _ _ stB fun b _ o e => by rw [hC]; exact Heap.get?_push_of_some _ e
  have ID := block_start IC ok hN fC
  obtain ⟨g1, g2, g3, g4, g5⟩ := IC.pin p0 (List.mem_append_left _ hp0)
  have nfB : ∀ cenv : Env, p0.1 ∉ (X.blk sC (upd HB D (.lst [])) scope cenv fp).fs := fun cenv z => (List.mem_cons.mp (IC.stkSub p0.1 z)).elim g3 g4
  have ID := inv_blkP (p := p0) ID (pushCells_keeps _ _ _ _ (Heap.get?_push_of_some _ g1)) g2 (Nat.ne_of_lt (Heap.lt_size g1)) (nfB _) g5
  have pg := hg sC (upd HB D (.lst [])) sC.heap.objs.size (cellsFrom (sC.heap.objs.size + 1) scope.names (cloFrom X.env.cells scope.names [])) fp
  have pt := ht sC (upd HB D (.lst [])) sC.heap.objs.size (cellsFrom (sC.heap.objs.size + 1) scope.names (cloFrom X.env.cells scope.names [])) fp
  have pe := he sC (upd HB D (.lst [])) sC.heap.objs.size (cellsFrom (sC.heap.objs.size + 1) scope.names (cloFrom X.env.cells scope.names [])) fp
  show codeAny _ _ (.compStart (.ListComp elt [⟨tg, iter, ifs, 0⟩] scope pos) 0 (.ref it) (.ref D) (compEnvC scope (cellsFrom (sC.heap.objs.size + 1) scope.names (cloFrom X.env.cells scope.names [])) sC.heap.objs.size X.env)) (compPost (model X.prog X.w) X.A X.xe use Qf (.ref D) sC.heap.objs.size) { sC with heap := pushCells (sC.heap.push { cls := .type "dict", data := .dict #[] }) scope.names }
  have freeF : ∀ b ∈ fp, (upd HB D (.lst [])) b = none := fun b hb => (fC b hb).1.1
  generalize ece : compEnvC scope (cellsFrom (sC.heap.objs.size + 1) scope.names (cloFrom X.env.cells scope.names [])) sC.heap.objs.size X.env = ce at ID pg pt pe ⊢
  have atC : ce.locals = sC.heap.objs.size := by subst ece; rfl
  generalize eHC : upd HB D (.lst []) = HC at IC ID pg pt pe first freeF fC
  generalize eDs : ({ sC with heap := pushCells (sC.heap.push { cls := .type "dict", data := .dict #[] }) scope.names } : Shared) = sD at ID ⊢
  have stD : tn 0 sD.heap := T.keep _ _ _ stC fun b _ o e => by rw [← eDs]; exact pushCells_keeps _ _ _ _ (Heap.get?_push_of_some _ e)
  have hotB : L2H.HotC (blkP X sC HC scope ce fp p0) := ⟨p0, hot, List.mem_cons_self⟩
  have apart : ∀ b ∈ fp, b ≠ p0.1 := fun b hb z => (fC b hb).1.2.2.2.2.2 p0 (List.mem_append_left _ hp0) z.symm
  have stays : ∀ {σ' : L2.St} {H' : Hp} {s' : Shared}, Inv (blkP X sC HC scope ce fp p0) [] σ' H' s' → (∀ b ∈ fp, H' b = none) → ∀ b ∈ fp, FpOk (blkP X sC HC scope ce fp p0) [] H' b := fun {σ' H' s'} I' hn b hb =>
    ⟨hn b hb, (I'.ok.exf b hb).1, I'.ok.exfs b hb, .inl hb, fun x c e => (I'.ok.exf b hb).2 x c e, fun q hq z => by
      have e : q = p0 := by simpa using (show q ∈ [p0] ++ ([] : List (Addr × Obj)) from hq)
      rw [e] at z
      exact apart b hb z.symm⟩
  have loop : codeAny (model X.prog X.w) X.A (.compLoop (.ListComp elt [⟨tg, iter, ifs, 0⟩] scope pos) 0 (.ref it) (.ref D) ce) (compPost (model X.prog X.w) X.A X.xe use Qf (.ref D) sC.heap.objs.size) sD := by
    refine compLoop_any (fun n s' => ∃ i H', Inv (blkP X sC HC scope ce fp p0) [] (wipe σ (own.map (·.2))) H' s' ∧ tn i s'.heap ∧ (∀ b ∈ fp, H' b = none) ∧ Wk i n H') ?_ k0 ⟨0, HC, ID, stD, freeF, first⟩
    rintro n sE ⟨i, HE, IE, stE, nE, wE⟩
    rcases turn i n HE wE with ⟨stop, fin⟩ | ⟨go, Nx, hNx, step⟩
    · have td := T.done (blkP X sC HC scope ce fp p0) rfl rfl rfl hotB i [] sE _ HE (fun _ _ => False) IE (stays IE nE) stE stop
      refine thnF td fun r sG ⟨hr, IG⟩ => ?_
      subst hr
      have back : Inv X pins σ HE sG := IC.call' (ch := fp) IG.os IG.base IG.hok IG.bare fun b hb => ⟨(fC b hb).1.2.2.2.1, (fC b hb).1.2.1, (fC b hb).1.2.2.2.2.1, (fC b hb).1.2.2.2.2.2⟩
      have nC : HE sC.heap.objs.size = none := by
        have z : HE ce.locals = none := IG.free
        rw [atC] at z
        exact z
      obtain ⟨m, hn, _⟩ := IG.loc
      have hn : sG.heap.Ns ce.locals m := hn
      rw [atC] at hn
      exact out D sC.heap.objs.size sG m HE back fin hn (IC.fpOk (Nat.le_refl _) nC)
    · have ti := T.item (blkP X sC HC scope ce fp p0) rfl rfl rfl hotB i [] sE _ HE (fun _ _ => False) IE (stays IE nE) stE go
      refine thnF ti fun r sG ⟨u, hr, hG⟩ => ?_
      subst hr
      refine thnF hG fun _ sI ⟨x, HI, II, rI, yI, stI, nI⟩ => ?_
      have IP := II.pinned (stays II nI) (T.obj _ _ stI)
      refine thnF (pg.run _ sI _ HI x u _ IP rI (step x HI yI)) fun _ sJ ⟨σJ, HJ, IJ, wJ, qJ⟩ => ?_
      refine thnF (pt.run _ sJ σJ HJ _ IJ qJ) fun b sK ⟨HK, IK, qK⟩ => ?_
      have again : ∀ {s' : Shared} {H' : Hp}, Inv (blkP X sC HC scope ce fp p0) ([] ++ pinsAt fp sI.heap) σJ H' s' → Nx H' → ∃ m, m < n ∧ ∃ i H', Inv (blkP X sC HC scope ce fp p0) [] (wipe σ (own.map (·.2))) H' s' ∧ tn i s'.heap ∧ (∀ b ∈ fp, H' b = none) ∧ Wk i m H' := fun {s' H'} I' nx => by
        obtain ⟨m', hm, w'⟩ := hNx H' nx
        have kept : ∀ b ∈ fp, ∀ o, sI.heap.get? b = some o → s'.heap.get? b = some o ∧ H' b = none := fun b hb o e =>
          let z := I'.pin (b, o) (List.mem_append_right _ (List.mem_append_right _ (mem_pinsAt hb e)))
          ⟨z.1, z.2.1⟩
        have hl : (wipe σ (own.map (·.2))).length = σJ.length := by rw [← wJ, wipe_length]
        refine ⟨m', hm, i + 1, H', (I'.unpinned (pins := [])).weak hl (fun j v e => ?_), T.keep _ _ _ stI fun b hb o e => (kept b hb o e).1, fun b hb => ?_, w'⟩
        · rw [← wJ] at e
          exact (wipe_some e).1
        · obtain ⟨o, e, _⟩ := T.obj _ _ stI b hb
          exact (kept b hb o e).2
      cases b with
      | false =>
        simp only [Bool.false_eq_true, if_false] at qK ⊢
        exact again IK qK
      | true =>
        simp only [if_true] at qK ⊢
        refine thnF (pe.run _ sK σJ HK _ IK qK) fun z sL ⟨yv, HL, IL, rL, acc, hD, hz, nx⟩ => ?_
        exact app_ok (X := blkP X sC HC scope ce fp p0) IL hD hz rL fun sM IM => again IM nx
  exact codeAny_compStart_list loop (T.self X.A 0 _ _ _ stD loop)
omit [TabEnv] in
theorem pe_lcH {elt tg iter : Expr} {ifs : List Expr} {scope : Scope} {own : List (Str × Nat)} {pos : Pos} {wi : TI} {g : TG} {tt : TT} {te : TE} {p0 : Addr × Obj} (hot : L2H.Hot1 X.A p0) (hp0 : p0 ∈ X.pn) (hN : X.N.Nodup) (hi : L2H.PIH X tg iter wi) (ok : BlkOk X.N X.env.scope scope own)
    (hg : ∀ (s : Shared) (H : Hp) (C : Addr) (cl : List (Str × Addr)) (fp : List Addr), PG (blkP X s H scope (compEnvC scope cl C X.env) fp p0) tg g) (ht : ∀ (s : Shared) (H : Hp) (C : Addr) (cl : List (Str × Addr)) (fp : List Addr), PTs (blkP X s H scope (compEnvC scope cl C X.env) fp p0) ifs tt)
    (he : ∀ (s : Shared) (H : Hp) (C : Addr) (cl : List (Str × Addr)) (fp : List Addr), PE (blkP X s H scope (compEnvC scope cl C X.env) fp p0) elt te) (hs : ∀ x, foldedSetIterable iter X.env x = pure x := by intro _; rfl) :
    PE X (.ListComp elt [⟨tg, iter, ifs, 0⟩] scope pos) (tLc wi g tt te (own.map (·.2))) := by
  refine ⟨fun pins s σ H Q I h => ?_⟩
  rw [eval_ListComp]
  refine lcH_core hot hp0 hN I hi ok hg ht he hs h fun D C s' m H' I' q hn f => ⟨m, hn, fun h'' sb => ?_⟩
  obtain ⟨f0, f1, f2, f3, f4, f5⟩ := f
  exact ⟨.ref D, H', I'.turned (t' := s'.toks) (fun b o hb e => (sb.2 b hb).trans e) f0 f1 f3 f4 f5, rfl, q⟩
end
/-! ### the image of such a comprehension -/
section
variable {X : Cx} {W : WX} {pos : Pos}
structure IDH (X : Cx) (W : WX) (tg iter : Expr) (wi : TI) (di : M (List D)) : Prop where
  pi : L2H.PIH X tg iter wi
  ev : EvI X.K W wi di
theorem id_range1H {tg a : Expr} {ta : TA} {p : Pos} {da : M (List D)} (hg : Gl X "range") (hm : X.mg "range" = none) (ha : AD X W [a] ta da) (hs : starEach [a] X.env = [(false, eval a X.env)] := by rfl) :
    IDH X W tg (.Call (.Name "range" p) [a] [] pos) (iRng1 ta) (M.bind da rng1X) :=
  ⟨L2H.pi_range1H hg hm ha.pa hs, (id_range1 (tg := tg) (pos := pos) (p := p) hg hm ha hs).ev⟩
omit [TabEnv] in
theorem hot_of {A : Around} {a : Addr} {oe : Obj} {cls : Value} {d : Option Addr} (hz : L2N.Zn cls d oe) (hv : ∃ vs, oe.data = .fields vs) (hA : A.handled = some (.ref a)) : L2H.Hot1 A (a, oe) := by
  obtain ⟨vs, hvs⟩ := hv
  exact ⟨hA, vs, hvs, hz.2.2 vs hvs⟩
theorem en_lcH {W' : WX} {elt tg iter : Expr} {ifs : List Expr} {scope : Scope} {own : List (Str × Nat)} {wi : TI} {vs : List Nat} {g : TG} {tt : TT} {te : TE} {di : M (List D)} {dg : D → M Unit} {dt : M Bool} {de : M D} {a0 : Addr} {oe : Obj} {cls : Value} {d : Option Addr} (hz : L2N.Zn cls d oe) (hf : ∃ vs, oe.data = .fields vs) (hA : X.A.handled = some (.ref a0)) (hp0 : (a0, oe) ∈ X.pn)
    (hN : X.N.Nodup) (hi : IDH X W tg iter wi di) (ok : BlkOk X.N X.env.scope scope own)
    (hg : ∀ (s : Shared) (H : Hp) (C : Addr) (cl : List (Str × Addr)) (fp : List Addr), GD (blkP X s H scope (compEnvC scope cl C X.env) fp (a0, oe)) tg vs g dg) (ht : ∀ (s : Shared) (H : Hp) (C : Addr) (cl : List (Str × Addr)) (fp : List Addr), TsD (blkP X s H scope (compEnvC scope cl C X.env) fp (a0, oe)) W' ifs tt dt)
    (he : ∀ (s : Shared) (H : Hp) (C : Addr) (cl : List (Str × Addr)) (fp : List Addr), DD (blkP X s H scope (compEnvC scope cl C X.env) fp (a0, oe)) W' elt te de) (hv : ∀ j ∈ vs, j ∈ own.map (·.2) := by decide) (hs : ∀ x, foldedSetIterable iter X.env x = pure x := by intro _; rfl) :
    EN X W (.ListComp elt [⟨tg, iter, ifs, 0⟩] scope pos) (tLc wi g tt te (own.map (·.2))) (dLc di dg dt de (own.map (·.2))) := by
  have eg : EvG X.K vs g dg := (hg {} (fun _ => none) 0 [] []).ev
  have et : EvT X.K W' tt dt := (ht {} (fun _ => none) 0 [] []).ev
  have ee : EvD X.K W' te de := (he {} (fun _ => none) 0 [] []).ev
  exact ⟨pe_lcH (hot_of hz hf hA) hp0 hN hi.pi ok (fun s H C cl fp => (hg s H C cl fp).pg) (fun s H C cl fp => (ht s H C cl fp).pt) (fun s H C cl fp => (he s H C cl fp).pe) hs, lc_ev hi.ev eg et ee hv⟩
end
end My

set_option Elab.async false
set_option linter.all false
set_option maxRecDepth 100000
set_option maxHeartbeats 4000000
/-! T20: the runs of a text. -/
namespace My
open PySem L2
def isBl (c : Nat) : Prop := c = 32 ∨ c = 10
instance (c : Nat) : Decidable (isBl c) := by
  unfold isBl
  infer_instance
/-- the runs from a place on: letters, figures, else a sign; blanks left out -/
inductive Rn : Int → List Nat → List (Int × Str) → Prop
  | nil {a : Int} : Rn a [] []
  | bl {a : Int} {c : Nat} {r : List Nat} {l : List (Int × Str)} : isBl c → Rn (a + 1) r l → Rn a (c :: r) l
  | letr {a : Int} {u r : List Nat} {l : List (Int × Str)} : u ≠ [] → (∀ c ∈ u, isLet c) → (∀ c ∈ r.head?, ¬ isLet c) → Rn (a + u.length) r l → Rn a (u ++ r) ((a, ⟨u.toArray⟩) :: l)
  | fig {a : Int} {u r : List Nat} {l : List (Int × Str)} : u ≠ [] → (∀ c ∈ u, isFig c) → (∀ c ∈ r.head?, ¬ isFig c) → Rn (a + u.length) r l → Rn a (u ++ r) ((a, ⟨u.toArray⟩) :: l)
  | one {a : Int} {c : Nat} {r : List Nat} {l : List (Int × Str)} : ¬ isBl c → ¬ isLet c → ¬ isFig c → Rn (a + 1) r l → Rn a (c :: r) ((a, ⟨#[c]⟩) :: l)
theorem span_ex (p : Nat → Prop) [DecidablePred p] : ∀ cs : List Nat, ∃ u r, cs = u ++ r ∧ (∀ c ∈ u, p c) ∧ (∀ c ∈ r.head?, ¬ p c)
  | [] => ⟨[], [], rfl, fun c h => absurd h List.not_mem_nil, fun c h => by cases h⟩
  | c :: cs => by
    by_cases h : p c
    · obtain ⟨u, r, e, h1, h2⟩ := span_ex p cs
      refine ⟨c :: u, r, by rw [e]; rfl, fun x hx => ?_, h2⟩
      rcases List.mem_cons.mp hx with rfl | hx
      · exact h
      · exact h1 x hx
    · refine ⟨[], c :: cs, rfl, fun c h => absurd h List.not_mem_nil, fun x hx => ?_⟩
      have : c = x := by simpa using hx
      subst this
      exact h
theorem span_ne {p : Nat → Prop} {c : Nat} {cs u r : List Nat} (e : c :: cs = u ++ r) (h2 : ∀ c ∈ r.head?, ¬ p c) (h : p c) : u ≠ [] := fun z => by
  subst z
  rw [List.nil_append] at e
  subst e
  exact h2 c rfl h
theorem Rn.ex : ∀ (n : Nat) (cs : List Nat) (a : Int), cs.length ≤ n → ∃ l, Rn a cs l
  | _, [], a, _ => ⟨[], .nil⟩
  | 0, c :: cs, a, h => by simp at h
  | n + 1, c :: cs, a, h => by
    by_cases hb : isBl c
    · obtain ⟨l, k⟩ := Rn.ex n cs (a + 1) (by simpa using h)
      exact ⟨l, .bl hb k⟩
    by_cases hl : isLet c
    · obtain ⟨u, r, e, h1, h2⟩ := span_ex isLet (c :: cs)
      have hu := span_ne e h2 hl
      have hlen := congrArg List.length e
      rw [List.length_append, List.length_cons] at hlen
      have hu1 : 0 < u.length := List.length_pos_iff.mpr hu
      obtain ⟨l, k⟩ := Rn.ex n r (a + u.length) (by simp at h; omega)
      rw [e]
      exact ⟨_, .letr hu h1 h2 k⟩
    by_cases hf : isFig c
    · obtain ⟨u, r, e, h1, h2⟩ := span_ex isFig (c :: cs)
      have hu := span_ne e h2 hf
      have hlen := congrArg List.length e
      rw [List.length_append, List.length_cons] at hlen
      have hu1 : 0 < u.length := List.length_pos_iff.mpr hu
      obtain ⟨l, k⟩ := Rn.ex n r (a + u.length) (by simp at h; omega)
      rw [e]
      exact ⟨_, .fig hu h1 h2 k⟩
    · obtain ⟨l, k⟩ := Rn.ex n cs (a + 1) (by simpa using h)
      exact ⟨_, .one hb hl hf k⟩
theorem rn_ex (cs : List Nat) : ∃ l, Rn 0 cs l := Rn.ex _ cs 0 (Nat.le_refl _)
instance (w : Str) : Decidable (fwd w) := by
  unfold fwd
  infer_instance
instance (w : Str) : Decidable (wd w) := by
  unfold wd
  infer_instance
def badD : List (Int × Str) → Option Int
  | [] => none
  | (a, w) :: l => if wd w then badD l else some a
theorem wd_letr {u : List Nat} (h : u ≠ []) (hl : ∀ c ∈ u, isLet c) : wd ⟨u.toArray⟩ ↔ u.length ≤ 8 := by
  have e : (⟨u.toArray⟩ : Str).cps.toList = u := by simp
  obtain ⟨c, cs, rfl⟩ := List.exists_cons_of_ne_nil h
  have hc := hl c List.mem_cons_self
  constructor
  · rintro (⟨_, h, _⟩ | ⟨_, h, k, _⟩ | h)
    · rwa [e] at h
    · rw [e] at h
      omega
    · rcases h with h | h
      · have := congrArg (fun s : Str => s.cps.toList.length) h
        have e3 : (Str.ofString ".").cps.toList.length = 1 := by decide +kernel
        simp only [e, e3] at this
        omega
      · have := congrArg (fun s : Str => s.cps.toList.length) h
        have e3 : (Str.ofString ",").cps.toList.length = 1 := by decide +kernel
        simp only [e, e3] at this
        omega
  · intro h8
    exact .inl ⟨by rw [e]; simp, by rw [e]; exact h8, by rw [e]; exact hl⟩
theorem zero_iff (u : List Nat) : (⟨u.toArray⟩ : Str) = Str.ofString "0" ↔ u = [48] := by
  have e3 : (Str.ofString "0").cps.toList = [48] := by decide +kernel
  constructor
  · intro h
    have := congrArg (fun s : Str => s.cps.toList) h
    rw [e3] at this
    simpa using this
  · rintro rfl
    apply str_ext
    rw [e3]
theorem wd_fig {u : List Nat} (h : u ≠ []) (hl : ∀ c ∈ u, isFig c) : wd ⟨u.toArray⟩ ↔ (u.length ≤ 4 ∧ (u = [48] ∨ u.head? ≠ some 48)) := by
  have e : (⟨u.toArray⟩ : Str).cps.toList = u := by simp
  obtain ⟨c, cs, rfl⟩ := List.exists_cons_of_ne_nil h
  have hc := hl c List.mem_cons_self
  constructor
  · rintro (⟨_, _, k⟩ | ⟨_, h, _, k⟩ | h)
    · rw [e] at k
      have := k c List.mem_cons_self
      unfold isLet at this
      unfold isFig at hc
      omega
    · rw [e] at h k
      rw [zero_iff] at k
      exact ⟨h, k⟩
    · rcases h with h | h
      · have := congrArg (fun s : Str => s.cps.toList) h
        have e3 : (Str.ofString ".").cps.toList = [46] := by decide +kernel
        simp only [e, e3] at this
        cases this
        unfold isFig at hc
        omega
      · have := congrArg (fun s : Str => s.cps.toList) h
        have e3 : (Str.ofString ",").cps.toList = [44] := by decide +kernel
        simp only [e, e3] at this
        cases this
        unfold isFig at hc
        omega
  · rintro ⟨h4, k⟩
    exact .inr (.inl ⟨by rw [e]; simp, by rw [e]; exact h4, by rw [e]; exact hl, by rw [e, zero_iff]; exact k⟩)
theorem wd_one {c : Nat} (h1 : ¬ isLet c) (h2 : ¬ isFig c) : wd ⟨#[c]⟩ ↔ (c = 46 ∨ c = 44) := by
  have e : (⟨#[c]⟩ : Str).cps.toList = [c] := rfl
  constructor
  · rintro (⟨_, _, k⟩ | ⟨_, _, k, _⟩ | h)
    · exact absurd (k c (by rw [e]; exact List.mem_cons_self)) h1
    · exact absurd (k c (by rw [e]; exact List.mem_cons_self)) h2
    · rcases h with h | h
      · have := congrArg (fun s : Str => s.cps.toList) h
        have e3 : (Str.ofString ".").cps.toList = [46] := by decide +kernel
        simp only [e3] at this
        left
        simpa using this
      · have := congrArg (fun s : Str => s.cps.toList) h
        have e3 : (Str.ofString ",").cps.toList = [44] := by decide +kernel
        simp only [e3] at this
        right
        simpa using this
  · rintro (rfl | rfl)
    · exact .inr (.inr (.inl (by decide +kernel)))
    · exact .inr (.inr (.inr (by decide +kernel)))
end My

set_option Elab.async false
set_option linter.all false
set_option maxRecDepth 100000
set_option maxHeartbeats 4000000
/-! T21: comprehensions over encoded lists (as in T10). -/
namespace My
open PySem L2
theorem itL_gen {α : Type} {enc : α → D} {p : α → Bool} {f : α → D} {Inv : List Slot → Prop} {dg : D → M Unit} {dt : M Bool} {de : M D} {vs : List Nat} {r0 : List Slot} {S : List Cell} : ∀ (xs : List α) (acc : List D) (c : Stt), Inv (wipeD c.r vs) → c.S = S → acc.length + xs.length ≤ 1000000 →
    (∀ x ∈ xs, ∀ w, Inv w → ∃ c1, dg (enc x) ⟨w, S⟩ = .ok () c1 ∧ ∃ c2, dt c1 = .ok (p x) c2 ∧ c2.S = S ∧ (p x = false → Inv (wipeD c2.r vs)) ∧ (p x = true → ∃ c3, de c2 = .ok (f x) c3 ∧ Inv (wipeD c3.r vs) ∧ c3.S = S)) →
    ∃ w, Inv w ∧ itL dg dt de vs r0 (xs.map enc) acc c = .ok (acc ++ (xs.filter p).map f) ⟨w, S⟩
  | [], acc, c, hw, hS, _, _ => ⟨_, hw, by
    rw [List.map_nil]
    unfold itL
    rw [hS]
    simp⟩
  | x :: xs, acc, c, hw, hS, hz, t => by
    obtain ⟨c1, e1, c2, e2, s2, k0, k1⟩ := t x List.mem_cons_self _ hw
    have hz2 : acc.length + xs.length + 1 ≤ 1000000 := by simpa [Nat.add_assoc] using hz
    rw [List.map_cons]
    unfold itL M.bind M.ne
    rw [hS, e1]
    dsimp only
    rw [e2]
    dsimp only
    cases hp : p x with
    | false =>
      obtain ⟨w, h1, h2⟩ := itL_gen (Inv := Inv) (enc := enc) (p := p) (f := f) (dg := dg) (dt := dt) (de := de) (vs := vs) (r0 := r0) (S := S) xs acc c2 (k0 hp) s2 (by omega) fun y hy => t y (List.mem_cons_of_mem _ hy)
      refine ⟨w, h1, ?_⟩
      rw [List.filter_cons, hp]
      simpa using h2
    | true =>
      obtain ⟨c3, e3, w3, s3⟩ := k1 hp
      obtain ⟨w, h1, h2⟩ := itL_gen (Inv := Inv) (enc := enc) (p := p) (f := f) (dg := dg) (dt := dt) (de := de) (vs := vs) (r0 := r0) (S := S) xs (acc ++ [f x]) c3 w3 s3 (by rw [List.length_append]; simp; omega) fun y hy => t y (List.mem_cons_of_mem _ hy)
      refine ⟨w, h1, ?_⟩
      rw [if_pos rfl, e3]
      dsimp only
      rw [if_pos (by omega), h2, List.append_assoc, List.filter_cons, hp]
      rfl
theorem itL_enc {α : Type} {enc : α → D} {p : α → Bool} {f : α → D} {w : List Slot} {dg : D → M Unit} {dt : M Bool} {de : M D} {vs : List Nat} {r0 : List Slot} {S : List Cell} (xs : List α) (c : Stt) (hw : wipeD c.r vs = w) (hS : c.S = S) (hz : xs.length ≤ 1000000)
    (t : ∀ x ∈ xs, ∃ c1, dg (enc x) ⟨w, S⟩ = .ok () c1 ∧ ∃ c2, dt c1 = .ok (p x) c2 ∧ c2.S = S ∧ (p x = false → wipeD c2.r vs = w) ∧ (p x = true → ∃ c3, de c2 = .ok (f x) c3 ∧ wipeD c3.r vs = w ∧ c3.S = S)) :
    itL dg dt de vs r0 (xs.map enc) [] c = .ok ((xs.filter p).map f) ⟨w, S⟩ := by
  obtain ⟨w', rfl, e⟩ := itL_gen (Inv := fun z => z = w) (enc := enc) (p := p) (f := f) (dg := dg) (dt := dt) (de := de) (vs := vs) (r0 := r0) (S := S) xs [] c hw hS (by simpa using hz) (fun x hx w' hw' => by subst hw'; exact t x hx)
  rw [e, List.nil_append]
/-- .. all of them -/
theorem itL_all {α : Type} {enc : α → D} {f : α → D} {w : List Slot} {dg : D → M Unit} {de : M D} {vs : List Nat} {r0 : List Slot} {S : List Cell} (xs : List α) (c : Stt) (hw : wipeD c.r vs = w) (hS : c.S = S) (hz : xs.length ≤ 1000000)
    (t : ∀ x ∈ xs, ∃ c1, dg (enc x) ⟨w, S⟩ = .ok () c1 ∧ ∃ c3, de c1 = .ok (f x) c3 ∧ wipeD c3.r vs = w ∧ c3.S = S) (hg : ∀ x ∈ xs, ∀ c1, dg (enc x) ⟨w, S⟩ = .ok () c1 → c1.S = S := by intro x _ c1 h; cases h; rfl) :
    itL dg (M.pure true) de vs r0 (xs.map enc) [] c = .ok (xs.map f) ⟨w, S⟩ := by
  have := itL_enc (p := fun _ => true) (enc := enc) (f := f) (dg := dg) (dt := M.pure true) (de := de) (vs := vs) (r0 := r0) (S := S) (w := w) xs c hw hS hz (fun x hx => by
    obtain ⟨c1, e1, c3, e3, w3, s3⟩ := t x hx
    exact ⟨c1, e1, c1, rfl, hg x hx c1 e1, fun h => absurd h (by decide), fun _ => ⟨c3, e3, w3, s3⟩⟩)
  rw [this, List.filter_eq_self.mpr fun _ _ => rfl]
def Pyd (n : Nat) (d : D) : Prop := ∃ p, pyD d = some p ∧ p.depth ≤ n ∧ p.plain = true
theorem pyd_non {n : Nat} : Pyd n (.v .non) := ⟨_, rfl, Nat.zero_le _, rfl⟩
theorem pyd_int {n : Nat} {i : Int} : Pyd n (.v (.int i)) := ⟨_, rfl, Nat.zero_le _, rfl⟩
theorem pyd_bl {n : Nat} {i : Bool} : Pyd n (.v (.bl i)) := ⟨_, rfl, Nat.zero_le _, rfl⟩
theorem pyd_str {n : Nat} {i : Str} : Pyd n (.v (.str i)) := ⟨_, rfl, Nat.zero_le _, rfl⟩
def PydA (n : Nat) (ds : List D) : Prop := ∀ d ∈ ds, Pyd n d
theorem pydA_nil {n : Nat} : PydA n [] := fun _ h => absurd h List.not_mem_nil
theorem pydA_cons {n : Nat} {d : D} {ds : List D} (h : Pyd n d) (t : PydA n ds) : PydA n (d :: ds) := fun x hx => by
  rcases List.mem_cons.mp hx with rfl | hx
  · exact h
  · exact t x hx
theorem pydA_py {n : Nat} : ∀ {ds : List D}, PydA n ds → ∃ ps, pyDs ds = some ps ∧ PyData.depthAll ps ≤ n ∧ PyData.plainAll ps = true ∧ ps.length = ds.length
  | [], _ => ⟨[], rfl, Nat.zero_le _, rfl, rfl⟩
  | d :: ds, h => by
    obtain ⟨p, e1, h1, h2⟩ := h d List.mem_cons_self
    obtain ⟨ps, e2, h3, h4, h5⟩ := pydA_py fun x hx => h x (List.mem_cons_of_mem _ hx)
    refine ⟨p :: ps, ?_, ?_, ?_, by simp [h5]⟩
    · simp only [pyDs, e1, e2]
    · simp only [PyData.depthAll]
      omega
    · simp only [PyData.plainAll, h2, h4, Bool.and_self]
theorem pyd_tup {n : Nat} {ds : List D} (h : PydA n ds) : Pyd (n + 1) (.tup ds) := by
  obtain ⟨ps, e, h1, h2, _⟩ := pydA_py h
  refine ⟨.tuple ps, ?_, ?_, by simpa [PyData.plain] using h2⟩
  · show (pyDs ds).map PyData.tuple = _
    rw [e]
    rfl
  · simp only [PyData.depth]
    omega
theorem pyd_lst {n : Nat} {ds : List D} (h : PydA n ds) : Pyd (n + 1) (.lst ds) := by
  obtain ⟨ps, e, h1, h2, _⟩ := pydA_py h
  refine ⟨.list ps, ?_, ?_, by simpa [PyData.plain] using h2⟩
  · show (pyDs ds).map PyData.list = _
    rw [e]
    rfl
  · simp only [PyData.depth]
    omega
theorem pydA_map {α : Type} {n : Nat} {f : α → D} (h : ∀ a, Pyd n (f a)) (xs : List α) : PydA n (xs.map f) := fun d hd => by
  obtain ⟨a, _, rfl⟩ := List.mem_map.mp hd
  exact h a
theorem eqv_nil (ps : List PyData) : PyData.eqv (.list ps) (.list []) = ps.isEmpty := by
  cases ps <;> simp [PyData.eqv, PyData.eqvAll]
theorem gEq_nil {neg : Bool} {l : List D} {c : Stt} (h : PydA 9 l) : gEq neg (.d (.lst l)) (.d (.lst [])) c = .ok (.v (.bl (if neg then !l.isEmpty else l.isEmpty))) c := by
  obtain ⟨ps, e, h1, _, h5⟩ := pydA_py h
  have p1 : pyO c (.d (.lst l)) = some (.list ps) := by
    show (pyDs l).map PyData.list = _
    rw [e]
    rfl
  have p2 : pyO c (.d (.lst [])) = some (.list []) := rfl
  have ee : ps.isEmpty = l.isEmpty := by cases ps <;> cases l <;> simp at h5 ⊢
  have := gEq_of (neg := neg) (k := if neg then !l.isEmpty else l.isEmpty) p1 p2
  unfold gEq
  rw [p1, p2]
  dsimp only
  rw [if_pos (by simp only [PyData.depth]; omega), eqv_nil, ee]
theorem gEq_refl {neg : Bool} {a b : O} {l : List D} {c : Stt} (h : PydA 9 l) (h1 : pyO c a = (pyDs l).map PyData.list) (h2 : pyO c b = (pyDs l).map PyData.list) : gEq neg a b c = .ok (.v (.bl (!neg))) c := by
  obtain ⟨ps, e, q1, q2, _⟩ := pydA_py h
  rw [e] at h1 h2
  unfold gEq
  rw [h1, h2]
  dsimp only [Option.map]
  have := PySem.SeqAt.eqv_refl_plain (.list ps) (by simpa [PyData.plain] using q2)
  rw [if_pos (by simp only [PyData.depth]; omega), this]
  cases neg <;> rfl
theorem pydA_mono {n m : Nat} {ds : List D} (h : n ≤ m) (t : PydA n ds) : PydA m ds := fun d hd => by
  obtain ⟨p, e, h1, h2⟩ := t d hd
  exact ⟨p, e, Nat.le_trans h1 h, h2⟩

/-! things that may be handed in for a change -/
end My

set_option Elab.async false
set_option linter.all false
set_option maxRecDepth 100000
set_option maxHeartbeats 4000000
/-! F34: enumerate over a text. -/
namespace My
open PySem PySem.Spec PyProof.Rows PyProof L2
variable [TabEnv]
omit [TabEnv] in
def ItEs (x : Str) : It where
  go := fun i _ => i < x.cps.size
  yld := fun i H v H' => ∃ T c, v = .ref T ∧ H T = none ∧ x.cps[i]? = some c ∧ H' = upd H T (.tup [.int (i : Nat), .str ⟨#[c]⟩])
  stop := fun i _ => x.cps.size ≤ i
omit [TabEnv] in
def StEs (x : Str) (t : Tok) (e it : Addr) (i : Nat) (h : Heap) : Prop := (∃ old, IsEnum h e it ((i : Nat) : Int) old) ∧ h.IsStrIter it (strIterType x) x t i ∧ e ≠ it ∧ i ≤ x.cps.size
omit [TabEnv] in
theorem turn_es {P : Program} {w : World} {K : PySem.W.Frag} {elts : List Expr} {kk : Nat} {tpos : Pos} (x : Str) (t : Tok) (e it : Addr) : Turn P w K (.Tuple elts kk tpos) (ItEs x) [e, it] e (StEs x t e it) where
  mem := List.mem_cons_self
  obj := fun i h st b hb => by
    obtain ⟨⟨old, he⟩, ⟨o, ho, _, hd⟩, _⟩ := st
    rcases List.mem_cons.mp hb with rfl | hb
    · exact ⟨_, he, fun v q => nomatch q⟩
    · obtain rfl : b = it := by simpa using hb
      exact ⟨o, ho, fun v q => by rw [hd] at q; cases q⟩
  keep := fun i h h' ⟨⟨old, he⟩, ⟨o, ho, r1⟩, r⟩ st => ⟨⟨old, st e (by simp) _ he⟩, ⟨o, st it (by simp) _ ho, r1⟩, r⟩
  item := by
    rintro X rfl rfl rfl hc i pins s σ H E I hf ⟨⟨old, he⟩, hit, hne, _⟩ hi
    have hi : i < x.cps.size := hi
    have hel : e < s.heap.objs.size := Heap.lt_size he
    have hil : it < s.heap.objs.size := by
      obtain ⟨o, ho, _⟩ := hit
      exact Heap.lt_size ho
    refine wpAny_pyNext_enum_itemD (Draws.text (show X.A.in1.handled = none from I.ok.hd hc) it x t) he hit hi hne (by simp [hne]) fun u h' tk hu ho st' hT hsz hk => ?_
    obtain ⟨c, uu, hx, rfl⟩ := hu
    refine ⟨_, rfl, wpAny_letOwnedTupleGo_enum (s := { s with heap := h', toks := tk + 1 }) ho fun h2 he2 sb => ?_⟩
    have back : ∀ b o, b ∉ [e, it] → s.heap.get? b = some o → h2.get? b = some o := fun b o hb q => (sb.2 b fun z => hb (by simp [z])).trans (hk b o (fun z => hb (by simp [z])) (fun z => hb (by simp [z])) q)
    have hT2 := (sb.2 _ (Nat.ne_of_gt hel)).trans hT
    have okT : ObjOk X.prog X.w (upd H s.heap.objs.size (.tup [.int (i : Nat), .str ⟨#[c]⟩])) h2 s.heap.objs.size (.tup [.int (i : Nat), .str ⟨#[c]⟩]) := ⟨(by decide : 2 ≤ sizeLine), [.int i tk, .str ⟨#[c]⟩ uu], .cons ⟨_, rfl⟩ (.cons ⟨_, rfl⟩ .nil), _, hT2, rfl, _, rfl⟩
    have I2 := I.turnedNew (ch := [e, it]) (t' := tk + 1) back hf (Nat.le_refl _) okT
    have e1 : ((i + 1 : Nat) : Int) = (i : Int) + 1 := by omega
    have hit2 : h2.IsStrIter it (strIterType x) x t (i + 1) := by
      obtain ⟨o, ho, r⟩ := st'
      exact ⟨o, (sb.2 it hne.symm).trans ho, r⟩
    refine ⟨.ref s.heap.objs.size, _, I2, rfl, ⟨_, c, rfl, I.hok.fresh (Nat.le_refl _), hx, rfl⟩, ⟨⟨.str ⟨#[c]⟩ uu, by rw [e1]; exact he2⟩, hit2, hne, hi⟩, fun b hb => ?_⟩
    have hb' : b < s.heap.objs.size := by
      rcases List.mem_cons.mp hb with rfl | hb
      · exact hel
      · obtain rfl : b = it := by simpa using hb
        exact hil
    rw [upd_ne (Nat.ne_of_lt hb')]
    exact (hf b hb).1
  done := by
    rintro X rfl rfl rfl hc i pins s σ H E I hf ⟨⟨old, he⟩, hit, hne, hle⟩ hz
    have hz : x.cps.size ≤ i := hz
    obtain rfl : i = x.cps.size := Nat.le_antisymm hle hz
    refine wpAny_pyNext_enum_endD (Draws.text (show X.A.in1.handled = none from I.ok.hd hc) it x t) he hit fun h' eb => ⟨rfl, ?_⟩
    exact I.turnedL (t' := s.toks) (ch := [e, it]) (fun b o hb q => eb b o (fun z => hb (by simp [z])) q) hf
  self := fun A i s Q E st h => st.1.elim fun _ he => wpAny_pyIter_enum he h
omit [TabEnv] in
def iEnS (ta : TA) : TI := fun σ H R => ta σ H fun vs H1 => ∃ x, vs = [.str x] ∧ R (ItEs x) H1
omit [TabEnv] in
theorem pi_enS {X : Cx} {e : Expr} {ta : TA} {p pos tpos : Pos} {elts : List Expr} {kk : Nat} (hg : Gl X "enumerate") (hm : X.mg "enumerate" = none) (ha : PA X [e] ta) (hs : starEach [e] X.env = [(false, eval e X.env)] := by rfl) :
    PI X (.Tuple elts kk tpos) (.Call (.Name "enumerate" p) [e] [] pos) (iEnS ta) := by
  refine ⟨fun pins s σ H R I h => PyProof.Rows.Call_ (ld_blt I hg hm PyProof.Rows.boot_enumerate (PyProof.Rows.callWith_type1 (thn (ha.run pos pins s σ H _ I h) fun us s1 ⟨vs, H1, I1, r1, q1⟩ => ?_) hs rfl))⟩
  obtain ⟨x, rfl, q⟩ := q1
  obtain ⟨u, rfl, t, rfl⟩ := vals1 r1
  refine enum_begin1 (begins_text x t) trivial fun h' he ho hk => wpAny_pyIter_enum he ?_
  have I2 : Inv X pins σ H1 { s1 with heap := h' } := I1.kept (t' := s1.toks) hk
  refine ⟨s1.heap.objs.size + 1, [s1.heap.objs.size + 1, s1.heap.objs.size], _, _, H1, rfl, I2, turn_es x t (s1.heap.objs.size + 1) s1.heap.objs.size, ⟨⟨.none, he⟩, ⟨_, ho, rfl, rfl⟩, Nat.succ_ne_self _, Nat.zero_le _⟩, fun b hb => ?_, q⟩
  have hle : s1.heap.objs.size ≤ b := by
    rcases List.mem_cons.mp hb with rfl | hb
    · exact Nat.le_succ _
    · obtain rfl : b = s1.heap.objs.size := by simpa using hb
      exact Nat.le_refl _
  exact I1.fpOk hle (I1.hok.fresh hle)
omit [TabEnv] in
/-- the signs of a text, each with its place -/
def enS (x : Str) : List D := (List.range x.cps.size).map fun i => .tup [.v (.int (i : Nat)), .v (.str ⟨#[x.cps.toList.getD i 0]⟩)]
theorem wk_es {K : PySem.W.Frag} {F : Hp} {μ : List Addr} (x : Str) : Wk K F μ (ItEs x) (enS x) where
  go := fun i H s hi => by
    show i < x.cps.size
    simpa [enS] using hi
  stop := fun i H s hi => by
    show x.cps.size ≤ i
    simpa [enS] using hi
  yld := fun i H v H' s hi ⟨T, c, e1, e2, e3, e4⟩ => by
    have hi : i < x.cps.size := by simpa [enS] using hi
    refine ⟨_, ?_, .inr ⟨T, _, _, e2, e4, e1, rfl, .cons (.v (.int (i : Nat))) (.cons (.v (.str ⟨#[c]⟩)) .nil)⟩⟩
    have e5 : x.cps.toList[i]? = some c := by simpa using e3
    unfold enS
    rw [List.getElem?_map, List.getElem?_range hi]
    simp only [Option.map_some, List.getD_eq_getElem?_getD, e5, Option.getD_some]
omit [TabEnv] in
def enSX (ds : List D) : M (List D) := match ds with
  | [.v (.str x)] => M.pure (enS x)
  | _ => M.no
section
variable {X : Cx} {W : WX}
theorem id_enS {a : Expr} {ta : TA} {p pos tpos : Pos} {elts : List Expr} {kk : Nat} {da : M (List D)} (hg : Gl X "enumerate") (hm : X.mg "enumerate" = none) (ha : AD X W [a] ta da) (hs : starEach [a] X.env = [(false, eval a X.env)] := by rfl) :
    ID X W (.Tuple elts kk tpos) (.Call (.Name "enumerate" p) [a] [] pos) (iEnS ta) (M.bind da enSX) := by
  exact ⟨pi_enS hg hm ha.pa hs, fun Z F μ c σ H P R p => ha.ev Z F μ c σ H _ R (p.bind.imp fun ds c1 F1 μ1 H1 l1 R1 p1 vs rs => by
    unfold enSX at p1
    split at p1
    · next x =>
      cases rs with
      | cons r rs =>
        cases rs
        cases r
        exact ⟨x, rfl, p1 F1 μ1 H1 (Le.refl _ _) R1 _ (wk_es x)⟩
    · exact p1.elim)⟩
end
end My

set_option Elab.async false
set_option linter.all false
set_option maxRecDepth 100000
set_option maxHeartbeats 4000000
namespace Law
open PySem L2 My
instance noTabs : TabEnv := ⟨[]⟩
def top (i : Nat) : Stmt := PySem.Challenge.pw_hallclock_k01_words.main.body.getD i (.Pass ⟨0, 0, 0, 0⟩)
class Env where
  HallError : Addr
  BadSign : Addr
  BadText : Addr
  BadName : Addr
  BadNumber : Addr
  BadRing : Addr
  BadLoan : Addr
  TooMany : Addr
  NoDoor : Addr
  BadChange : Addr
  BadKept : Addr
  nd : ([HallError, BadSign, BadText, BadName, BadNumber, BadRing, BadLoan, TooMany, NoDoor, BadChange, BadKept] : List Addr).Nodup
structure Tx (K : PySem.W.Frag) (mg : Str → Option Value) (a_HallError : Addr) (a_BadSign : Addr) (a_BadText : Addr) (a_BadName : Addr) (a_BadNumber : Addr) (a_BadRing : Addr) (a_BadLoan : Addr) (a_TooMany : Addr) (a_NoDoor : Addr) (a_BadChange : Addr) (a_BadKept : Addr) : Prop where
  g_BadChange : mg "BadChange" = some (.ref a_BadChange)
  g_BadKept : mg "BadKept" = some (.ref a_BadKept)
  g_BadLoan : mg "BadLoan" = some (.ref a_BadLoan)
  g_BadName : mg "BadName" = some (.ref a_BadName)
  g_BadNumber : mg "BadNumber" = some (.ref a_BadNumber)
  g_BadRing : mg "BadRing" = some (.ref a_BadRing)
  g_BadSign : mg "BadSign" = some (.ref a_BadSign)
  g_BadText : mg "BadText" = some (.ref a_BadText)
  g_HallError : mg "HallError" = some (.ref a_HallError)
  g_NoDoor : mg "NoDoor" = some (.ref a_NoDoor)
  g_TooMany : mg "TooMany" = some (.ref a_TooMany)
  d_law_cell_at : Has K mg "_law_cell_at" "_law_cell_at" (top 24) ["_law_script", "_law_k"]
  d_law_is_word : Has K mg "_law_is_word" "_law_is_word" (top 31) ["_law_run"]
  d_law_kinds : Has K mg "_law_kinds" "_law_kinds" (top 33) ["_law_e"]
  d_law_mixed : Has K mg "_law_mixed" "_law_mixed" (top 25) ["_law_cell", "_law_k"]
  d_law_odd : Has K mg "_law_odd" "_law_odd" (top 28) ["_law_cell"]
  d_law_runs : Has K mg "_law_runs" "_law_runs" (top 30) ["_law_text_here"]
  d_law_told_words : Has K mg "_law_told_words" "_law_told_words" (top 26) []
  d_is_name : Has K mg "is_name" "is_name" (top 19) ["word"]
  d_run_of : Has K mg "run_of" "run_of" (top 20) ["text", "at", "signs"]
  d_law_due : Has K mg "_law_due" "_law_due" (top 32) ["_law_text_here"]
  d_law_name_right : Has K mg "_law_name_right" "_law_name_right" (top 36) ["_law_word"]
  d_law_piece : Has K mg "_law_piece" "_law_piece" (top 27) ["_law_cell"]
  d_law_by_hand : Has K mg "_law_by_hand" "_law_by_hand" (top 35) ["_law_cell"]
  d_law_text : Has K mg "_law_text" "_law_text" (top 29) ["_law_script"]
  d_word_from : Has K mg "word_from" "word_from" (top 21) ["text", "at"]
  d_words : Has K mg "words" "words" (top 22) ["text"]
  d_law_told : Has K mg "_law_told" "_law_told" (top 34) ["_law_thing"]
  d_law : Has K mg "law" "law" (top 37) ["_law_script"]
  n_ValueError : mg "ValueError" = none
  n_all : mg "all" = none
  n_bool : mg "bool" = none
  n_enumerate : mg "enumerate" = none
  n_isinstance : mg "isinstance" = none
  n_len : mg "len" = none
  n_list : mg "list" = none
  n_range : mg "range" = none
  n_sorted : mg "sorted" = none
  n_str : mg "str" = none
  n_tuple : mg "tuple" = none
  kc_FIGURES : ∃ u, mg "FIGURES" = some u ∧ RelV (.str (Str.ofString "0123456789")) u
  kc_LETTERS : ∃ u, mg "LETTERS" = some u ∧ RelV (.str (Str.ofString "abcdefghijklmnopqrstuvwxyz")) u
  kc_MOST_FIGURES : ∃ u, mg "MOST_FIGURES" = some u ∧ RelV (.int 4) u
  kc_MOST_LETTERS : ∃ u, mg "MOST_LETTERS" = some u ∧ RelV (.int 8) u
  kc_MOST_SIGNS : ∃ u, mg "MOST_SIGNS" = some u ∧ RelV (.int 6000) u
  kc_TOLD : ∃ a, mg "TOLD" = some (.ref a) ∧ TupK K a [(.str (Str.ofString "pool")), (.str (Str.ofString "holds")), (.str (Str.ofString "door")), (.str (Str.ofString "rank")), (.str (Str.ofString "at")), (.str (Str.ofString "draws")), (.str (Str.ofString "upto")), (.str (Str.ofString "gaps")), (.str (Str.ofString "to")), (.str (Str.ofString "from")), (.str (Str.ofString "then")), (.str (Str.ofString "way")), (.str (Str.ofString "takes")), (.str (Str.ofString "desk")), (.str (Str.ofString "hands")), (.str (Str.ofString "ranked")), (.str (Str.ofString "rests")), (.str (Str.ofString "gate")), (.str (Str.ofString "opens")), (.str (Str.ofString "for")), (.str (Str.ofString "below")), (.str (Str.ofString "fork")), (.str (Str.ofString "by")), (.str (Str.ofString "turns")), (.str (Str.ofString "number")), (.str (Str.ofString "least")), (.str (Str.ofString "lend")), (.str (Str.ofString "of")), (.str (Str.ofString "give")), (.str (Str.ofString "exit")), (.str (Str.ofString "change"))]
  y_BadLoan : HasX K mg "BadLoan" a_BadLoan "word" "BadLoan.__init__" (inClass (top 7) 0) ["self", "word"]
  xf_BadLoan : XfC K a_BadLoan
  y_BadName : HasX K mg "BadName" a_BadName "word" "BadName.__init__" (inClass (top 4) 0) ["self", "word"]
  xf_BadName : XfC K a_BadName
  y_BadNumber : HasX K mg "BadNumber" a_BadNumber "word" "BadNumber.__init__" (inClass (top 5) 0) ["self", "word"]
  xf_BadNumber : XfC K a_BadNumber
  y_BadRing : HasX K mg "BadRing" a_BadRing "word" "BadRing.__init__" (inClass (top 6) 0) ["self", "word"]
  xf_BadRing : XfC K a_BadRing
  y_BadSign : HasX K mg "BadSign" a_BadSign "spot" "BadSign.__init__" (inClass (top 2) 0) ["self", "spot"]
  xf_BadSign : XfC K a_BadSign
  y_BadText : HasX K mg "BadText" a_BadText "spot" "BadText.__init__" (inClass (top 3) 0) ["self", "spot"]
  xf_BadText : XfC K a_BadText
  x_BadSign : ExcC K a_BadSign
  e_BadSign_BadChange : PySem.W.kitOne K (.ref a_BadSign) (.ref a_BadChange) = some false
  e_BadSign_BadKept : PySem.W.kitOne K (.ref a_BadSign) (.ref a_BadKept) = some false
  e_BadSign_BadLoan : PySem.W.kitOne K (.ref a_BadSign) (.ref a_BadLoan) = some false
  e_BadSign_BadName : PySem.W.kitOne K (.ref a_BadSign) (.ref a_BadName) = some false
  e_BadSign_BadNumber : PySem.W.kitOne K (.ref a_BadSign) (.ref a_BadNumber) = some false
  e_BadSign_BadRing : PySem.W.kitOne K (.ref a_BadSign) (.ref a_BadRing) = some false
  e_BadSign_BadSign : PySem.W.kitOne K (.ref a_BadSign) (.ref a_BadSign) = some true
  e_BadSign_BadText : PySem.W.kitOne K (.ref a_BadSign) (.ref a_BadText) = some false
  e_BadSign_NoDoor : PySem.W.kitOne K (.ref a_BadSign) (.ref a_NoDoor) = some false
  e_BadSign_TooMany : PySem.W.kitOne K (.ref a_BadSign) (.ref a_TooMany) = some false
  e_BadSign_ValueError : PySem.W.kitOne K (.ref a_BadSign) (.type "ValueError") = some true
  h_BadSign_HallError : PySem.W.exmOne K (.ref a_BadSign) (.ref a_HallError) = some true
section
variable [en : Env]
def Ex_BadChange : List (Addr × Bool) := [(Env.BadSign, false)]
theorem exT_BadChange {K : PySem.W.Frag} {mg : Str → Option Value} (T : Tx K mg Env.HallError Env.BadSign Env.BadText Env.BadName Env.BadNumber Env.BadRing Env.BadLoan Env.TooMany Env.NoDoor Env.BadChange Env.BadKept) : ∀ e ∈ Ex_BadChange, ExcC K e.1 ∧ PySem.W.kitOne K (.ref e.1) (.ref Env.BadChange) = some e.2 := fun e h => by
  simp only [Ex_BadChange, List.mem_cons, List.not_mem_nil, or_false] at h
  rcases h with rfl
  · exact ⟨T.x_BadSign, T.e_BadSign_BadChange⟩
def Ex_BadKept : List (Addr × Bool) := [(Env.BadSign, false)]
theorem exT_BadKept {K : PySem.W.Frag} {mg : Str → Option Value} (T : Tx K mg Env.HallError Env.BadSign Env.BadText Env.BadName Env.BadNumber Env.BadRing Env.BadLoan Env.TooMany Env.NoDoor Env.BadChange Env.BadKept) : ∀ e ∈ Ex_BadKept, ExcC K e.1 ∧ PySem.W.kitOne K (.ref e.1) (.ref Env.BadKept) = some e.2 := fun e h => by
  simp only [Ex_BadKept, List.mem_cons, List.not_mem_nil, or_false] at h
  rcases h with rfl
  · exact ⟨T.x_BadSign, T.e_BadSign_BadKept⟩
def Ex_BadLoan : List (Addr × Bool) := [(Env.BadSign, false)]
theorem exT_BadLoan {K : PySem.W.Frag} {mg : Str → Option Value} (T : Tx K mg Env.HallError Env.BadSign Env.BadText Env.BadName Env.BadNumber Env.BadRing Env.BadLoan Env.TooMany Env.NoDoor Env.BadChange Env.BadKept) : ∀ e ∈ Ex_BadLoan, ExcC K e.1 ∧ PySem.W.kitOne K (.ref e.1) (.ref Env.BadLoan) = some e.2 := fun e h => by
  simp only [Ex_BadLoan, List.mem_cons, List.not_mem_nil, or_false] at h
  rcases h with rfl
  · exact ⟨T.x_BadSign, T.e_BadSign_BadLoan⟩
def Ex_BadName : List (Addr × Bool) := [(Env.BadSign, false)]
theorem exT_BadName {K : PySem.W.Frag} {mg : Str → Option Value} (T : Tx K mg Env.HallError Env.BadSign Env.BadText Env.BadName Env.BadNumber Env.BadRing Env.BadLoan Env.TooMany Env.NoDoor Env.BadChange Env.BadKept) : ∀ e ∈ Ex_BadName, ExcC K e.1 ∧ PySem.W.kitOne K (.ref e.1) (.ref Env.BadName) = some e.2 := fun e h => by
  simp only [Ex_BadName, List.mem_cons, List.not_mem_nil, or_false] at h
  rcases h with rfl
  · exact ⟨T.x_BadSign, T.e_BadSign_BadName⟩
def Ex_BadNumber : List (Addr × Bool) := [(Env.BadSign, false)]
theorem exT_BadNumber {K : PySem.W.Frag} {mg : Str → Option Value} (T : Tx K mg Env.HallError Env.BadSign Env.BadText Env.BadName Env.BadNumber Env.BadRing Env.BadLoan Env.TooMany Env.NoDoor Env.BadChange Env.BadKept) : ∀ e ∈ Ex_BadNumber, ExcC K e.1 ∧ PySem.W.kitOne K (.ref e.1) (.ref Env.BadNumber) = some e.2 := fun e h => by
  simp only [Ex_BadNumber, List.mem_cons, List.not_mem_nil, or_false] at h
  rcases h with rfl
  · exact ⟨T.x_BadSign, T.e_BadSign_BadNumber⟩
def Ex_BadRing : List (Addr × Bool) := [(Env.BadSign, false)]
theorem exT_BadRing {K : PySem.W.Frag} {mg : Str → Option Value} (T : Tx K mg Env.HallError Env.BadSign Env.BadText Env.BadName Env.BadNumber Env.BadRing Env.BadLoan Env.TooMany Env.NoDoor Env.BadChange Env.BadKept) : ∀ e ∈ Ex_BadRing, ExcC K e.1 ∧ PySem.W.kitOne K (.ref e.1) (.ref Env.BadRing) = some e.2 := fun e h => by
  simp only [Ex_BadRing, List.mem_cons, List.not_mem_nil, or_false] at h
  rcases h with rfl
  · exact ⟨T.x_BadSign, T.e_BadSign_BadRing⟩
def Ex_BadSign : List (Addr × Bool) := [(Env.BadSign, true)]
theorem exT_BadSign {K : PySem.W.Frag} {mg : Str → Option Value} (T : Tx K mg Env.HallError Env.BadSign Env.BadText Env.BadName Env.BadNumber Env.BadRing Env.BadLoan Env.TooMany Env.NoDoor Env.BadChange Env.BadKept) : ∀ e ∈ Ex_BadSign, ExcC K e.1 ∧ PySem.W.kitOne K (.ref e.1) (.ref Env.BadSign) = some e.2 := fun e h => by
  simp only [Ex_BadSign, List.mem_cons, List.not_mem_nil, or_false] at h
  rcases h with rfl
  · exact ⟨T.x_BadSign, T.e_BadSign_BadSign⟩
def Ex_BadText : List (Addr × Bool) := [(Env.BadSign, false)]
theorem exT_BadText {K : PySem.W.Frag} {mg : Str → Option Value} (T : Tx K mg Env.HallError Env.BadSign Env.BadText Env.BadName Env.BadNumber Env.BadRing Env.BadLoan Env.TooMany Env.NoDoor Env.BadChange Env.BadKept) : ∀ e ∈ Ex_BadText, ExcC K e.1 ∧ PySem.W.kitOne K (.ref e.1) (.ref Env.BadText) = some e.2 := fun e h => by
  simp only [Ex_BadText, List.mem_cons, List.not_mem_nil, or_false] at h
  rcases h with rfl
  · exact ⟨T.x_BadSign, T.e_BadSign_BadText⟩
def Ex_NoDoor : List (Addr × Bool) := [(Env.BadSign, false)]
theorem exT_NoDoor {K : PySem.W.Frag} {mg : Str → Option Value} (T : Tx K mg Env.HallError Env.BadSign Env.BadText Env.BadName Env.BadNumber Env.BadRing Env.BadLoan Env.TooMany Env.NoDoor Env.BadChange Env.BadKept) : ∀ e ∈ Ex_NoDoor, ExcC K e.1 ∧ PySem.W.kitOne K (.ref e.1) (.ref Env.NoDoor) = some e.2 := fun e h => by
  simp only [Ex_NoDoor, List.mem_cons, List.not_mem_nil, or_false] at h
  rcases h with rfl
  · exact ⟨T.x_BadSign, T.e_BadSign_NoDoor⟩
def Ex_TooMany : List (Addr × Bool) := [(Env.BadSign, false)]
theorem exT_TooMany {K : PySem.W.Frag} {mg : Str → Option Value} (T : Tx K mg Env.HallError Env.BadSign Env.BadText Env.BadName Env.BadNumber Env.BadRing Env.BadLoan Env.TooMany Env.NoDoor Env.BadChange Env.BadKept) : ∀ e ∈ Ex_TooMany, ExcC K e.1 ∧ PySem.W.kitOne K (.ref e.1) (.ref Env.TooMany) = some e.2 := fun e h => by
  simp only [Ex_TooMany, List.mem_cons, List.not_mem_nil, or_false] at h
  rcases h with rfl
  · exact ⟨T.x_BadSign, T.e_BadSign_TooMany⟩
def Ex_ValueError : List (Addr × Bool) := [(Env.BadSign, true)]
theorem exT_ValueError {K : PySem.W.Frag} {mg : Str → Option Value} (T : Tx K mg Env.HallError Env.BadSign Env.BadText Env.BadName Env.BadNumber Env.BadRing Env.BadLoan Env.TooMany Env.NoDoor Env.BadChange Env.BadKept) : ∀ e ∈ Ex_ValueError, ExcC K e.1 ∧ PySem.W.kitOne K (.ref e.1) (.type "ValueError") = some e.2 := fun e h => by
  simp only [Ex_ValueError, List.mem_cons, List.not_mem_nil, or_false] at h
  rcases h with rfl
  · exact ⟨T.x_BadSign, T.e_BadSign_ValueError⟩
def cat_HallError : List Addr := [Env.BadSign]
theorem cat_HallError_ok {K : PySem.W.Frag} {mg : Str → Option Value} (T : Tx K mg Env.HallError Env.BadSign Env.BadText Env.BadName Env.BadNumber Env.BadRing Env.BadLoan Env.TooMany Env.NoDoor Env.BadChange Env.BadKept) : ∀ C ∈ cat_HallError, PySem.W.exmOne K (.ref C) (.ref Env.HallError) = some true := fun e h => by
  simp only [cat_HallError, List.mem_cons, List.not_mem_nil, or_false] at h
  rcases h with rfl
  · exact T.h_BadSign_HallError
def Xf_spot : List Addr := [Env.BadSign]
theorem xfT_spot {K : PySem.W.Frag} {mg : Str → Option Value} (T : Tx K mg Env.HallError Env.BadSign Env.BadText Env.BadName Env.BadNumber Env.BadRing Env.BadLoan Env.TooMany Env.NoDoor Env.BadChange Env.BadKept) : ∀ C ∈ Xf_spot, XfC K C ∧ PySem.W.findIn K (.ref C) "spot" = some none := fun C h => by
  simp only [Xf_spot, List.mem_cons, List.not_mem_nil, or_false] at h
  rcases h with rfl
  · exact ⟨T.xf_BadSign, T.y_BadSign.n⟩
def k_FIGURES : D := .v (.str (Str.ofString "0123456789"))
def k_LETTERS : D := .v (.str (Str.ofString "abcdefghijklmnopqrstuvwxyz"))
def k_MOST_FIGURES : D := .v (.int 4)
def k_MOST_LETTERS : D := .v (.int 8)
def k_MOST_SIGNS : D := .v (.int 6000)
def k_TOLD : D := .tup [.v (.str (Str.ofString "pool")), .v (.str (Str.ofString "holds")), .v (.str (Str.ofString "door")), .v (.str (Str.ofString "rank")), .v (.str (Str.ofString "at")), .v (.str (Str.ofString "draws")), .v (.str (Str.ofString "upto")), .v (.str (Str.ofString "gaps")), .v (.str (Str.ofString "to")), .v (.str (Str.ofString "from")), .v (.str (Str.ofString "then")), .v (.str (Str.ofString "way")), .v (.str (Str.ofString "takes")), .v (.str (Str.ofString "desk")), .v (.str (Str.ofString "hands")), .v (.str (Str.ofString "ranked")), .v (.str (Str.ofString "rests")), .v (.str (Str.ofString "gate")), .v (.str (Str.ofString "opens")), .v (.str (Str.ofString "for")), .v (.str (Str.ofString "below")), .v (.str (Str.ofString "fork")), .v (.str (Str.ofString "by")), .v (.str (Str.ofString "turns")), .v (.str (Str.ofString "number")), .v (.str (Str.ofString "least")), .v (.str (Str.ofString "lend")), .v (.str (Str.ofString "of")), .v (.str (Str.ofString "give")), .v (.str (Str.ofString "exit")), .v (.str (Str.ofString "change"))]
end
section
variable [en : Env]

/-- the signs from a place on -/
def Dc (t : Str) (a : Int) (cs : List Nat) : Prop := 0 ≤ a ∧ t.cps.toList.drop a.toNat = cs
theorem Dc.jump {t : Str} {a : Int} {u cs : List Nat} (h : Dc t a (u ++ cs)) : Dc t (a + u.length) cs := by
  refine ⟨by have := h.1; omega, ?_⟩
  have e : (a + u.length).toNat = a.toNat + u.length := by have := h.1; omega
  rw [e, ← List.drop_drop, h.2, List.drop_left]
theorem Dc.next {t : Str} {a : Int} {c : Nat} {cs : List Nat} (h : Dc t a (c :: cs)) : Dc t (a + 1) cs := Dc.jump (u := [c]) h
theorem t_len (t : Str) : t.length = t.cps.toList.length := Array.length_toList.symm
theorem Dc.lt {t : Str} {a : Int} {c : Nat} {cs : List Nat} (h : Dc t a (c :: cs)) : a < (t.length : Int) := by
  have e := congrArg List.length h.2
  rw [List.length_drop, List.length_cons] at e
  have := h.1
  rw [t_len]
  omega
theorem Dc.ge {t : Str} {a : Int} (h : Dc t a []) : ¬ a < (t.length : Int) := by
  have := List.drop_eq_nil_iff.mp h.2
  have := h.1
  rw [t_len]
  omega
theorem Dc.at {t : Str} {a : Int} {c : Nat} {cs : List Nat} (h : Dc t a (c :: cs)) : atI t.cps.toList a = some c := by
  have l := h.lt
  rw [t_len] at l
  have e : t.cps.toList[a.toNat]? = some c := by
    have e2 : (t.cps.toList.drop a.toNat)[0]? = some c := by
      rw [h.2]
      rfl
    rwa [List.getElem?_drop, Nat.add_zero] at e2
  unfold atI ixN
  rw [if_pos h.1, if_pos l]
  exact e
theorem Dc.cut {t : Str} {a : Int} {u cs : List Nat} (h : Dc t a (u ++ cs)) (hz : a ≤ t.length) : cutS t (some a) (some (a + u.length)) = ⟨u.toArray⟩ := by
  have e := congrArg List.length h.2
  rw [List.length_drop, List.length_append] at e
  have h0 := h.1
  rw [t_len] at hz
  unfold cutS HT.sIx
  dsimp only
  rw [t_len, if_neg (by omega), if_neg (by omega)]
  have m1 : min a.toNat t.cps.toList.length = a.toNat := by omega
  have m2 : min (a + (u.length : Int)).toNat t.cps.toList.length - a.toNat = u.length := by omega
  rw [m1, m2, h.2, List.take_left]
theorem at_lastD (xs : List D) (x : D) : atI (xs ++ [x]) (-1) = some x := by
  have e : ixN (xs ++ [x]).length (-1) = some xs.length := by
    unfold ixN
    rw [if_neg (by decide), if_pos (by simp; omega)]
    congr 1
    simp
    omega
  unfold atI
  rw [e]
  simp
theorem bl_in (c : Nat) : inV (V.str ⟨#[c]⟩) [V.str (Str.ofString " "), V.str (Str.ofString "\n")] = decide (c = 32 ∨ c = 10) := by
  have e := inV_Ss ⟨#[c]⟩ [Str.ofString " ", Str.ofString "\n"]
  refine Eq.trans e ?_
  have e1 : ((⟨#[c]⟩ : Str) = Str.ofString " ") ↔ c = 32 := by
    constructor
    · intro h
      have := congrArg (fun s : Str => s.cps.toList) h
      have e3 : (Str.ofString " ").cps.toList = [32] := by decide +kernel
      rw [e3] at this
      simpa using this
    · rintro rfl
      decide +kernel
  have e2 : ((⟨#[c]⟩ : Str) = Str.ofString "\n") ↔ c = 10 := by
    constructor
    · intro h
      have := congrArg (fun s : Str => s.cps.toList) h
      have e3 : (Str.ofString "\n").cps.toList = [10] := by decide +kernel
      rw [e3] at this
      simpa using this
    · rintro rfl
      decide +kernel
  have e3 : ((⟨#[c]⟩ : Str) ∈ [Str.ofString " ", Str.ofString "\n"]) ↔ (c = 32 ∨ c = 10) := by
    simp only [List.mem_cons, List.not_mem_nil, or_false, e1, e2]
  exact decide_eq_decide.mpr e3
theorem one_zero (c : Nat) : ((⟨#[c]⟩ : Str) = Str.ofString "0") ↔ c = 48 := by
  constructor
  · intro h
    have := congrArg (fun s : Str => s.cps.toList) h
    have e3 : (Str.ofString "0").cps.toList = [48] := by decide +kernel
    rw [e3] at this
    simpa using this
  · rintro rfl
    decide +kernel

theorem at0 {α : Type} (x : α) (xs : List α) : atI (x :: xs) 0 = some x := by
  unfold atI ixN
  simp
theorem st_get (S : List Cell) (x : Cell) : (S ++ [x])[S.length]? = some x := by simp
theorem st_set (S : List Cell) (x y : Cell) : (S ++ [x]).set S.length y = S ++ [y] := by simp
theorem sl_len (u : List Nat) : (⟨u.toArray⟩ : Str).length = u.length := by
  rw [t_len]
theorem pt_in (c : Nat) : inV (V.str ⟨#[c]⟩) [V.str (Str.ofString "."), V.str (Str.ofString ",")] = decide (c = 46 ∨ c = 44) := by
  have e := inV_Ss ⟨#[c]⟩ [Str.ofString ".", Str.ofString ","]
  refine Eq.trans e (decide_eq_decide.mpr ?_)
  have e1 : ((⟨#[c]⟩ : Str) = Str.ofString ".") ↔ c = 46 := by
    constructor
    · intro h
      have := congrArg (fun s : Str => s.cps.toList) h
      have e3 : (Str.ofString ".").cps.toList = [46] := by decide +kernel
      simp only [e3] at this
      simpa using this
    · rintro rfl
      decide +kernel
  have e2 : ((⟨#[c]⟩ : Str) = Str.ofString ",") ↔ c = 44 := by
    constructor
    · intro h
      have := congrArg (fun s : Str => s.cps.toList) h
      have e3 : (Str.ofString ",").cps.toList = [44] := by decide +kernel
      simp only [e3] at this
      simpa using this
    · rintro rfl
      decide +kernel
  simp only [List.mem_cons, List.not_mem_nil, or_false, e1, e2]
def Kd (u r : List Nat) : Prop := (∀ c ∈ u, isLet c) ∧ (∀ c ∈ r.head?, ¬ isLet c) ∨ (∀ c ∈ u, isFig c) ∧ (∀ c ∈ r.head?, ¬ isFig c) ∨ ∃ c, u = [c] ∧ ¬ isLet c ∧ ¬ isFig c
def bs (a : Int) : Exn := ⟨.ref Env.BadSign, some ("spot", .v (.int a))⟩
end
section
variable {P : Program} {w : World} {K : PySem.W.Frag} {mg : Str → Option Value} {base : Heap} [en : Env]
abbrev slaw_cell_at : Stmt := (top 24)
abbrev Nlaw_cell_at : List Str := ["_law_script", "_law_k"]
theorem sclaw_cell_at : FnScope Nlaw_cell_at ["_law_script", "_law_k"] (defScope slaw_cell_at) := ⟨rfl, rfl, rfl, by decide +kernel, rfl, by decide +kernel, by decide +kernel⟩
noncomputable def den_law_cell_at : M Fl :=
    (dSeq (dIfS (dCmpT (gI iLt) (dVar 1) (okD (M.bind (dVar 0) gLen))) (dRet (dOp gIx (dVar 0) (dVar 1))) dNx)
    (dRet (dD (dC (.int 0)))))
theorem raw_law_cell_at (T : Tx K mg Env.HallError Env.BadSign Env.BadText Env.BadName Env.BadNumber Env.BadRing Env.BadLoan Env.TooMany Env.NoDoor Env.BadChange Env.BadKept) : Okf P w K mg base 1 "_law_cell_at" ["_law_script", "_law_k"] (runD 2 2 den_law_cell_at) := by
  have sc := sclaw_cell_at
  exact ok_has (N := Nlaw_cell_at) T.d_law_cell_at sc rfl (by decide) fun f cdv A outer s H E hr => ⟨_, ((bd_cons (sd_if (td_cmp cLt (ed_var 1) (DD.e (dd_b1 bLen (by rfl) T.n_len (by decide +kernel) (ed_var 0))) (nomark _)) (bd_one (sd_ret (dd_ix (ed_var 0) (ed_var 1) (fun _ _ => rfl)))) bd_nil)
    (bd_one (sd_ret (ED.d ed_int)))) : BD _ _ _ _ den_law_cell_at)⟩

def g_law_cell_at : G := fun ds S => match ds with
  | [.scr es, .v (.int k)] => match intsD es with
    | some ns => if 0 ≤ k then .ok (.v (.int (ns.getD k.toNat 0))) S else .no
    | none => .no
  | _ => .no
theorem eq_law_cell_at : ∀ ds S, g_law_cell_at ds S ≠ .no → runD 2 2 den_law_cell_at ds S = g_law_cell_at ds S := fun ds S h => by
  unfold g_law_cell_at at h ⊢
  split at h
  · next es k =>
    split at h
    · next ns hn =>
      split at h
      · next hk =>
        rw [if_pos hk]
        rw [intsD_eq hn]
        by_cases hl : k < ns.length
        · have a1 : atI (ns.map I) k = some (.v (.int (ns.getD k.toNat 0))) := atI_map (f := I) hk hl
          simp only [den_law_cell_at, runD, dD, dNil, dCons, dAnd, dOr, dNotT, dAndV, dOrV, dNotV, dIf, dTru, dCmpT, dSeq, dRet, dSet, dSetN, dIfS, dNx, dDrop, dOp, dNeg, dTup, dLst, dC, dK, dVar, okD, okN, frz, dCall, ofF, dAug, dPar, dApp, dChain, dListOf, dSlL, dRev,
  M.bind, M.pure, M.no, M.ne, dName, dUnit, dConsG, dTupG, gOr, gI, gS, gAdd, gSubI, gMul, gDiv, gMod, gPow, gIx, gLen, gAbs, gInt1, gSum, gAll, gAny, gMaxL, gMinL, gTupOf, g2I, gDm, gPart, gTru, gBool, gBoolO, gEq_pair, gEq_ints, gEq_sl1, gEq_sl2, opL, gEq_int, gEq_str, gEq_bl, gEq_non, gNone, gIn, gSign, gCat, gRep, gIsi,
  iLt, iLe, iGt, iGe, My.isNon, truD, tagD, seqD, lstD, rdlD, mutD, putL, tupD, vsD, rng1X, rng2X, enuX, zipX, seqX,
  Option.bind, Option.map, Option.bind_some, Option.map_some,
  List.map_cons, List.map_nil, List.length_cons, List.length_nil, List.nil_append, List.cons_append, List.replicate, List.getElem?_cons_zero, List.getElem?_cons_succ, List.set_cons_zero, List.set_cons_succ, List.append_nil,
  if_true, if_false, ite_true, ite_false, Nat.reduceAdd, Int.reduceToNat, Int.reducePow, Nat.reducePow, Int.reduceMul, Int.reduceAdd, Int.reduceSub, Int.reduceLT, Int.reduceLE, Nat.reduceMul, Int.cast_ofNat_Int, Nat.reduceSub, Nat.reduceLT, Nat.reduceLeDiff, ne_eq, reduceCtorEq, not_false_eq_true, not_true_eq_false, Int.reduceEq, Int.reduceNeg, Bool.false_eq_true, Bool.not_true, Bool.not_false, decide_true, decide_false, true_and, and_true, false_and, and_false, or_true, true_or, or_false, false_or, id_eq, Bool.true_eq_false, decide_eq_true_eq, Bool.not_eq_true', decide_eq_false_iff_not, Bool.not_not, blsD, List.all_cons, List.all_nil, List.any_cons, List.any_nil, Bool.and_self, Bool.and_true, Bool.or_false, dFor, dLc, itL, wipeD, backD, isi_NoneType_bool, isi_NoneType_int, isi_NoneType_str, isi_NoneType_tuple, isi_NoneType_list, isi_NoneType_dict, isi_bool_bool, isi_bool_int, isi_bool_str, isi_bool_tuple, isi_bool_list, isi_bool_dict, isi_int_bool, isi_int_int, isi_int_str, isi_int_tuple, isi_int_list, isi_int_dict, isi_str_bool, isi_str_int, isi_str_str, isi_str_tuple, isi_str_list, isi_str_dict, isi_tuple_bool, isi_tuple_int, isi_tuple_str, isi_tuple_tuple, isi_tuple_list, isi_tuple_dict, isi_list_bool, isi_list_int, isi_list_str, isi_list_tuple, isi_list_list, isi_list_dict, isi_dict_bool, isi_dict_int, isi_dict_str, isi_dict_tuple, isi_dict_list, isi_dict_dict, hl, List.length_map, a1]
        · have e : ns.getD k.toNat 0 = 0 := by
            rw [List.getD_eq_getElem?_getD, List.getElem?_eq_none (by omega)]
            rfl
          simp only [den_law_cell_at, runD, dD, dNil, dCons, dAnd, dOr, dNotT, dAndV, dOrV, dNotV, dIf, dTru, dCmpT, dSeq, dRet, dSet, dSetN, dIfS, dNx, dDrop, dOp, dNeg, dTup, dLst, dC, dK, dVar, okD, okN, frz, dCall, ofF, dAug, dPar, dApp, dChain, dListOf, dSlL, dRev,
  M.bind, M.pure, M.no, M.ne, dName, dUnit, dConsG, dTupG, gOr, gI, gS, gAdd, gSubI, gMul, gDiv, gMod, gPow, gIx, gLen, gAbs, gInt1, gSum, gAll, gAny, gMaxL, gMinL, gTupOf, g2I, gDm, gPart, gTru, gBool, gBoolO, gEq_pair, gEq_ints, gEq_sl1, gEq_sl2, opL, gEq_int, gEq_str, gEq_bl, gEq_non, gNone, gIn, gSign, gCat, gRep, gIsi,
  iLt, iLe, iGt, iGe, My.isNon, truD, tagD, seqD, lstD, rdlD, mutD, putL, tupD, vsD, rng1X, rng2X, enuX, zipX, seqX,
  Option.bind, Option.map, Option.bind_some, Option.map_some,
  List.map_cons, List.map_nil, List.length_cons, List.length_nil, List.nil_append, List.cons_append, List.replicate, List.getElem?_cons_zero, List.getElem?_cons_succ, List.set_cons_zero, List.set_cons_succ, List.append_nil,
  if_true, if_false, ite_true, ite_false, Nat.reduceAdd, Int.reduceToNat, Int.reducePow, Nat.reducePow, Int.reduceMul, Int.reduceAdd, Int.reduceSub, Int.reduceLT, Int.reduceLE, Nat.reduceMul, Int.cast_ofNat_Int, Nat.reduceSub, Nat.reduceLT, Nat.reduceLeDiff, ne_eq, reduceCtorEq, not_false_eq_true, not_true_eq_false, Int.reduceEq, Int.reduceNeg, Bool.false_eq_true, Bool.not_true, Bool.not_false, decide_true, decide_false, true_and, and_true, false_and, and_false, or_true, true_or, or_false, false_or, id_eq, Bool.true_eq_false, decide_eq_true_eq, Bool.not_eq_true', decide_eq_false_iff_not, Bool.not_not, blsD, List.all_cons, List.all_nil, List.any_cons, List.any_nil, Bool.and_self, Bool.and_true, Bool.or_false, dFor, dLc, itL, wipeD, backD, isi_NoneType_bool, isi_NoneType_int, isi_NoneType_str, isi_NoneType_tuple, isi_NoneType_list, isi_NoneType_dict, isi_bool_bool, isi_bool_int, isi_bool_str, isi_bool_tuple, isi_bool_list, isi_bool_dict, isi_int_bool, isi_int_int, isi_int_str, isi_int_tuple, isi_int_list, isi_int_dict, isi_str_bool, isi_str_int, isi_str_str, isi_str_tuple, isi_str_list, isi_str_dict, isi_tuple_bool, isi_tuple_int, isi_tuple_str, isi_tuple_tuple, isi_tuple_list, isi_tuple_dict, isi_list_bool, isi_list_int, isi_list_str, isi_list_tuple, isi_list_list, isi_list_dict, isi_dict_bool, isi_dict_int, isi_dict_str, isi_dict_tuple, isi_dict_list, isi_dict_dict, hl, List.length_map, e]
      · exact absurd rfl h
    · exact absurd rfl h
  · exact absurd rfl h
theorem gc (ns : List Int) (k : Int) (S : List Cell) (h : 0 ≤ k) : g_law_cell_at [scr ns, .v (.int k)] S = .ok (.v (.int (ns.getD k.toNat 0))) S := by
  show (match intsD (ns.map I) with | some ns => if 0 ≤ k then RF.ok (.v (.int (ns.getD k.toNat 0))) S else .no | none => .no) = _
  rw [intsD_map]
  exact if_pos h
theorem ok_law_cell_at (T : Tx K mg Env.HallError Env.BadSign Env.BadText Env.BadName Env.BadNumber Env.BadRing Env.BadLoan Env.TooMany Env.NoDoor Env.BadChange Env.BadKept) : Okf P w K mg base 1 "_law_cell_at" ["_law_script", "_law_k"] g_law_cell_at := (raw_law_cell_at T ).by eq_law_cell_at
abbrev slaw_is_word : Stmt := (top 31)
abbrev Nlaw_is_word : List Str := ["_law_run"]
theorem sclaw_is_word : FnScope Nlaw_is_word ["_law_run"] (defScope slaw_is_word) := ⟨rfl, rfl, rfl, by decide +kernel, rfl, by decide +kernel, by decide +kernel⟩
noncomputable def den_law_is_word : M Fl :=
    (dSeq (dIfS (dCmpT (gOr (gIn false) (gSign false)) (dVar 0) (okD (dTup (dCons (dD (dC (.str "."))) (dCons (dD (dC (.str ","))) dNil))))) (dRet (dD (dC (.bl true)))) dNx)
    (dSeq (dIfS (dCmpT (gOr (gIn false) (gSign false)) (okD (dOp gIx (dVar 0) (dC (.int 0)))) (dC (.str "abcdefghijklmnopqrstuvwxyz"))) (dRet (dOp (gI iLt) (okD (M.bind (dVar 0) gLen)) (dC (.int 9)))) dNx)
    (dRet (dD (dAndV (okD (dOp (gOr (gIn false) (gSign false)) (okD (dOp gIx (dVar 0) (dC (.int 0)))) (dC (.str "0123456789")))) (dAndV (okD (dOp (gI iLt) (okD (M.bind (dVar 0) gLen)) (dC (.int 5)))) (dOrV (okD (dOp (gEq false) (dVar 0) (dC (.str "0")))) (okD (dOp (gEq true) (okD (dOp gIx (dVar 0) (dC (.int 0)))) (dC (.str "0")))))))))))
theorem raw_law_is_word (T : Tx K mg Env.HallError Env.BadSign Env.BadText Env.BadName Env.BadNumber Env.BadRing Env.BadLoan Env.TooMany Env.NoDoor Env.BadChange Env.BadKept) : Okf P w K mg base 1 "_law_is_word" ["_law_run"] (runD 1 1 den_law_is_word) := by
  have sc := sclaw_is_word
  exact ok_has (N := Nlaw_is_word) T.d_law_is_word sc rfl (by decide) fun f cdv A outer s H E hr => ⟨_, ((bd_cons (sd_if (td_cmp cIn (ed_var 0) (DD.e (dd_tup (ad_cons (ED.d ed_str) (ad_cons (ED.d ed_str) ad_nil)))) rfl) (bd_one (sd_ret (ED.d ed_bl))) bd_nil)
    (bd_cons (sd_if (td_cmp cIn (DD.e (dd_ix (ed_var 0) ed_int (fun _ _ => rfl))) ed_str rfl) (bd_one (sd_ret (dd_cmp cLt (DD.e (dd_b1 bLen (by rfl) T.n_len (by decide +kernel) (ed_var 0))) ed_int (nomark _)))) bd_nil)
    (bd_one (sd_ret (ED.d (ed_and (DD.e (dd_cmp cIn (DD.e (dd_ix (ed_var 0) ed_int (fun _ _ => rfl))) ed_str rfl)) (ed_and (DD.e (dd_cmp cLt (DD.e (dd_b1 bLen (by rfl) T.n_len (by decide +kernel) (ed_var 0))) ed_int (nomark _))) (ed_one (ed_or (DD.e (dd_cmp (cEq hr.units) (ed_var 0) ed_str (nomark _))) (ed_one (DD.e (dd_cmp (cNe hr.units) (DD.e (dd_ix (ed_var 0) ed_int (fun _ _ => rfl))) ed_str (nomark _))))))))))))) : BD _ _ _ _ den_law_is_word)⟩
noncomputable def g_law_is_word : G := runD 1 1 den_law_is_word
theorem eq_law_is_word : ∀ ds S, g_law_is_word ds S ≠ .no → runD 1 1 den_law_is_word ds S = g_law_is_word ds S := fun _ _ _ => rfl

theorem isw_ok {u r : List Nat} (hu : u ≠ []) (hk : Kd u r) (hz : u.length ≤ 100000) (S : List Cell) : g_law_is_word [sD ⟨u.toArray⟩] S = .ok (.v (.bl (decide (wd ⟨u.toArray⟩)))) S := by
  obtain ⟨c, cs, rfl⟩ := List.exists_cons_of_ne_nil hu
  have l1 := sl_len (c :: cs)
  have uz : (⟨(c :: cs).toArray⟩ : Str).length ≤ 1000000 := by rw [l1]; omega
  have a0 : atI (⟨(c :: cs).toArray⟩ : Str).cps.toList 0 = some c := at0 _ _
  have mL := propext (let_mem c)
  have mF := propext (fig_mem c)
  have ec : (⟨(c :: cs).toArray⟩ : Str).cps.toList = c :: cs := rfl
  have dot : ∀ d : Nat, ∀ s : Str, s.cps.toList = [d] → ((⟨(c :: cs).toArray⟩ : Str) = s ↔ c :: cs = [d]) := fun d s e => ⟨fun h => by rw [← e, ← h], fun h => str_ext (by rw [ec, e, h])⟩
  have pin : inV (V.str ⟨(c :: cs).toArray⟩) [V.str (Str.ofString "."), V.str (Str.ofString ",")] = decide (c :: cs = [46] ∨ c :: cs = [44]) := by
    refine (inV_Ss _ [Str.ofString ".", Str.ofString ","]).trans (decide_eq_decide.mpr ?_)
    simp only [List.mem_cons, List.not_mem_nil, or_false, dot 46 (Str.ofString ".") (by decide +kernel), dot 44 (Str.ofString ",") (by decide +kernel)]
  by_cases h46 : c :: cs = [46] ∨ c :: cs = [44]
  · have hw : wd ⟨(c :: cs).toArray⟩ := by
      rcases h46 with h | h
      · rw [h]; exact .inr (.inr (.inl (by decide +kernel)))
      · rw [h]; exact .inr (.inr (.inr (by decide +kernel)))
    have e := eq_true h46
    have hw' := eq_true hw
    simp only [e, decide_true] at pin
    simp only [g_law_is_word, den_law_is_word, runD, dD, dNil, dCons, dAnd, dOr, dNotT, dAndV, dOrV, dNotV, dIf, dTru, dCmpT, dSeq, dRet, dSet, dSetN, dIfS, dNx, dDrop, dOp, dNeg, dTup, dLst, dC, dK, dVar, okD, okN, frz, dCall, ofF, dAug, dPar, dApp, dChain, dListOf, dSlL, dRev,
  M.bind, M.pure, M.no, M.ne, dName, dUnit, dConsG, dTupG, gOr, gI, gS, gAdd, gSubI, gMul, gDiv, gMod, gPow, gIx, gLen, gAbs, gInt1, gSum, gAll, gAny, gMaxL, gMinL, gTupOf, g2I, gDm, gPart, gTru, gBool, gBoolO, gEq_pair, gEq_ints, gEq_sl1, gEq_sl2, opL, gEq_int, gEq_str, gEq_bl, gEq_non, gNone, gIn, gSign, gCat, gRep, gIsi,
  iLt, iLe, iGt, iGe, My.isNon, truD, tagD, seqD, lstD, rdlD, mutD, putL, tupD, vsD, rng1X, rng2X, enuX, zipX, seqX,
  Option.bind, Option.map, Option.bind_some, Option.map_some,
  List.map_cons, List.map_nil, List.length_cons, List.length_nil, List.nil_append, List.cons_append, List.replicate, List.getElem?_cons_zero, List.getElem?_cons_succ, List.set_cons_zero, List.set_cons_succ, List.append_nil,
  if_true, if_false, ite_true, ite_false, Nat.reduceAdd, Int.reduceToNat, Int.reducePow, Nat.reducePow, Int.reduceMul, Int.reduceAdd, Int.reduceSub, Int.reduceLT, Int.reduceLE, Nat.reduceMul, Int.cast_ofNat_Int, Nat.reduceSub, Nat.reduceLT, Nat.reduceLeDiff, ne_eq, reduceCtorEq, not_false_eq_true, not_true_eq_false, Int.reduceEq, Int.reduceNeg, Bool.false_eq_true, Bool.not_true, Bool.not_false, decide_true, decide_false, true_and, and_true, false_and, and_false, or_true, true_or, or_false, false_or, id_eq, Bool.true_eq_false, decide_eq_true_eq, Bool.not_eq_true', decide_eq_false_iff_not, Bool.not_not, blsD, List.all_cons, List.all_nil, List.any_cons, List.any_nil, Bool.and_self, Bool.and_true, Bool.or_false, dFor, dLc, itL, wipeD, backD, isi_NoneType_bool, isi_NoneType_int, isi_NoneType_str, isi_NoneType_tuple, isi_NoneType_list, isi_NoneType_dict, isi_bool_bool, isi_bool_int, isi_bool_str, isi_bool_tuple, isi_bool_list, isi_bool_dict, isi_int_bool, isi_int_int, isi_int_str, isi_int_tuple, isi_int_list, isi_int_dict, isi_str_bool, isi_str_int, isi_str_str, isi_str_tuple, isi_str_list, isi_str_dict, isi_tuple_bool, isi_tuple_int, isi_tuple_str, isi_tuple_tuple, isi_tuple_list, isi_tuple_dict, isi_list_bool, isi_list_int, isi_list_str, isi_list_tuple, isi_list_list, isi_list_dict, isi_dict_bool, isi_dict_int, isi_dict_str, isi_dict_tuple, isi_dict_list, isi_dict_dict, dSlD, dCatN, dLcA, dLcX, dForA, dForX, gStr1, gIsiS, tagS, dJoinS, dIsStr, strsO, gStrA, dRaiseF, dPut, flatV, pin, hw']
  · have e := eq_false h46
    simp only [e, decide_false] at pin
    rcases hk with ⟨k, k2⟩ | ⟨k, k2⟩ | ⟨d, e2, k1, k2⟩
    · have t1 := eq_true (k c List.mem_cons_self)
      rw [t1] at mL
      have w := propext (wd_letr hu k)
      have q : ((((c :: cs).length : Nat) : Int) < 9) = ((c :: cs).length ≤ 8) := propext (by omega)
      rw [← l1] at q w
      simp only [g_law_is_word, den_law_is_word, runD, dD, dNil, dCons, dAnd, dOr, dNotT, dAndV, dOrV, dNotV, dIf, dTru, dCmpT, dSeq, dRet, dSet, dSetN, dIfS, dNx, dDrop, dOp, dNeg, dTup, dLst, dC, dK, dVar, okD, okN, frz, dCall, ofF, dAug, dPar, dApp, dChain, dListOf, dSlL, dRev,
  M.bind, M.pure, M.no, M.ne, dName, dUnit, dConsG, dTupG, gOr, gI, gS, gAdd, gSubI, gMul, gDiv, gMod, gPow, gIx, gLen, gAbs, gInt1, gSum, gAll, gAny, gMaxL, gMinL, gTupOf, g2I, gDm, gPart, gTru, gBool, gBoolO, gEq_pair, gEq_ints, gEq_sl1, gEq_sl2, opL, gEq_int, gEq_str, gEq_bl, gEq_non, gNone, gIn, gSign, gCat, gRep, gIsi,
  iLt, iLe, iGt, iGe, My.isNon, truD, tagD, seqD, lstD, rdlD, mutD, putL, tupD, vsD, rng1X, rng2X, enuX, zipX, seqX,
  Option.bind, Option.map, Option.bind_some, Option.map_some,
  List.map_cons, List.map_nil, List.length_cons, List.length_nil, List.nil_append, List.cons_append, List.replicate, List.getElem?_cons_zero, List.getElem?_cons_succ, List.set_cons_zero, List.set_cons_succ, List.append_nil,
  if_true, if_false, ite_true, ite_false, Nat.reduceAdd, Int.reduceToNat, Int.reducePow, Nat.reducePow, Int.reduceMul, Int.reduceAdd, Int.reduceSub, Int.reduceLT, Int.reduceLE, Nat.reduceMul, Int.cast_ofNat_Int, Nat.reduceSub, Nat.reduceLT, Nat.reduceLeDiff, ne_eq, reduceCtorEq, not_false_eq_true, not_true_eq_false, Int.reduceEq, Int.reduceNeg, Bool.false_eq_true, Bool.not_true, Bool.not_false, decide_true, decide_false, true_and, and_true, false_and, and_false, or_true, true_or, or_false, false_or, id_eq, Bool.true_eq_false, decide_eq_true_eq, Bool.not_eq_true', decide_eq_false_iff_not, Bool.not_not, blsD, List.all_cons, List.all_nil, List.any_cons, List.any_nil, Bool.and_self, Bool.and_true, Bool.or_false, dFor, dLc, itL, wipeD, backD, isi_NoneType_bool, isi_NoneType_int, isi_NoneType_str, isi_NoneType_tuple, isi_NoneType_list, isi_NoneType_dict, isi_bool_bool, isi_bool_int, isi_bool_str, isi_bool_tuple, isi_bool_list, isi_bool_dict, isi_int_bool, isi_int_int, isi_int_str, isi_int_tuple, isi_int_list, isi_int_dict, isi_str_bool, isi_str_int, isi_str_str, isi_str_tuple, isi_str_list, isi_str_dict, isi_tuple_bool, isi_tuple_int, isi_tuple_str, isi_tuple_tuple, isi_tuple_list, isi_tuple_dict, isi_list_bool, isi_list_int, isi_list_str, isi_list_tuple, isi_list_list, isi_list_dict, isi_dict_bool, isi_dict_int, isi_dict_str, isi_dict_tuple, isi_dict_list, isi_dict_dict, dSlD, dCatN, dLcA, dLcX, dForA, dForX, gStr1, gIsiS, tagS, dJoinS, dIsStr, strsO, gStrA, dRaiseF, dPut, flatV, pin, a0, mL, uz, q, w]
    · have t1 : isLet c = False := eq_false (by have := k c List.mem_cons_self; unfold isFig at this; unfold isLet; omega)
      have t2 := eq_true (k c List.mem_cons_self)
      rw [t1] at mL
      rw [t2] at mF
      have w := propext (wd_fig hu k)
      have z0 := propext (zero_iff (c :: cs))
      have c0 := propext (one_zero c)
      have hd : ((c :: cs).head? ≠ some 48) = (c ≠ 48) := propext (by simp)
      rw [hd] at w
      by_cases h5 : (c :: cs).length ≤ 4
      · have q : (((⟨(c :: cs).toArray⟩ : Str).length : Int) < 5) = True := eq_true (by rw [l1]; omega)
        have h5' := eq_true h5
        rw [h5', true_and] at w
        by_cases h0 : c :: cs = [48]
        · have h0' := eq_true h0
          rw [h0'] at z0 w
          rw [true_or] at w
          simp only [g_law_is_word, den_law_is_word, runD, dD, dNil, dCons, dAnd, dOr, dNotT, dAndV, dOrV, dNotV, dIf, dTru, dCmpT, dSeq, dRet, dSet, dSetN, dIfS, dNx, dDrop, dOp, dNeg, dTup, dLst, dC, dK, dVar, okD, okN, frz, dCall, ofF, dAug, dPar, dApp, dChain, dListOf, dSlL, dRev,
  M.bind, M.pure, M.no, M.ne, dName, dUnit, dConsG, dTupG, gOr, gI, gS, gAdd, gSubI, gMul, gDiv, gMod, gPow, gIx, gLen, gAbs, gInt1, gSum, gAll, gAny, gMaxL, gMinL, gTupOf, g2I, gDm, gPart, gTru, gBool, gBoolO, gEq_pair, gEq_ints, gEq_sl1, gEq_sl2, opL, gEq_int, gEq_str, gEq_bl, gEq_non, gNone, gIn, gSign, gCat, gRep, gIsi,
  iLt, iLe, iGt, iGe, My.isNon, truD, tagD, seqD, lstD, rdlD, mutD, putL, tupD, vsD, rng1X, rng2X, enuX, zipX, seqX,
  Option.bind, Option.map, Option.bind_some, Option.map_some,
  List.map_cons, List.map_nil, List.length_cons, List.length_nil, List.nil_append, List.cons_append, List.replicate, List.getElem?_cons_zero, List.getElem?_cons_succ, List.set_cons_zero, List.set_cons_succ, List.append_nil,
  if_true, if_false, ite_true, ite_false, Nat.reduceAdd, Int.reduceToNat, Int.reducePow, Nat.reducePow, Int.reduceMul, Int.reduceAdd, Int.reduceSub, Int.reduceLT, Int.reduceLE, Nat.reduceMul, Int.cast_ofNat_Int, Nat.reduceSub, Nat.reduceLT, Nat.reduceLeDiff, ne_eq, reduceCtorEq, not_false_eq_true, not_true_eq_false, Int.reduceEq, Int.reduceNeg, Bool.false_eq_true, Bool.not_true, Bool.not_false, decide_true, decide_false, true_and, and_true, false_and, and_false, or_true, true_or, or_false, false_or, id_eq, Bool.true_eq_false, decide_eq_true_eq, Bool.not_eq_true', decide_eq_false_iff_not, Bool.not_not, blsD, List.all_cons, List.all_nil, List.any_cons, List.any_nil, Bool.and_self, Bool.and_true, Bool.or_false, dFor, dLc, itL, wipeD, backD, isi_NoneType_bool, isi_NoneType_int, isi_NoneType_str, isi_NoneType_tuple, isi_NoneType_list, isi_NoneType_dict, isi_bool_bool, isi_bool_int, isi_bool_str, isi_bool_tuple, isi_bool_list, isi_bool_dict, isi_int_bool, isi_int_int, isi_int_str, isi_int_tuple, isi_int_list, isi_int_dict, isi_str_bool, isi_str_int, isi_str_str, isi_str_tuple, isi_str_list, isi_str_dict, isi_tuple_bool, isi_tuple_int, isi_tuple_str, isi_tuple_tuple, isi_tuple_list, isi_tuple_dict, isi_list_bool, isi_list_int, isi_list_str, isi_list_tuple, isi_list_list, isi_list_dict, isi_dict_bool, isi_dict_int, isi_dict_str, isi_dict_tuple, isi_dict_list, isi_dict_dict, dSlD, dCatN, dLcA, dLcX, dForA, dForX, gStr1, gIsiS, tagS, dJoinS, dIsStr, strsO, gStrA, dRaiseF, dPut, flatV, pin, a0, mL, mF, uz, q, z0, c0, w]
        · have h0' := eq_false h0
          rw [h0'] at z0 w
          rw [false_or] at w
          by_cases hc : c = 48
          · have hc' := eq_true hc
            rw [hc'] at c0
            have w2 : (wd ⟨(c :: cs).toArray⟩) = False := by rw [w]; simp [hc]
            simp only [g_law_is_word, den_law_is_word, runD, dD, dNil, dCons, dAnd, dOr, dNotT, dAndV, dOrV, dNotV, dIf, dTru, dCmpT, dSeq, dRet, dSet, dSetN, dIfS, dNx, dDrop, dOp, dNeg, dTup, dLst, dC, dK, dVar, okD, okN, frz, dCall, ofF, dAug, dPar, dApp, dChain, dListOf, dSlL, dRev,
  M.bind, M.pure, M.no, M.ne, dName, dUnit, dConsG, dTupG, gOr, gI, gS, gAdd, gSubI, gMul, gDiv, gMod, gPow, gIx, gLen, gAbs, gInt1, gSum, gAll, gAny, gMaxL, gMinL, gTupOf, g2I, gDm, gPart, gTru, gBool, gBoolO, gEq_pair, gEq_ints, gEq_sl1, gEq_sl2, opL, gEq_int, gEq_str, gEq_bl, gEq_non, gNone, gIn, gSign, gCat, gRep, gIsi,
  iLt, iLe, iGt, iGe, My.isNon, truD, tagD, seqD, lstD, rdlD, mutD, putL, tupD, vsD, rng1X, rng2X, enuX, zipX, seqX,
  Option.bind, Option.map, Option.bind_some, Option.map_some,
  List.map_cons, List.map_nil, List.length_cons, List.length_nil, List.nil_append, List.cons_append, List.replicate, List.getElem?_cons_zero, List.getElem?_cons_succ, List.set_cons_zero, List.set_cons_succ, List.append_nil,
  if_true, if_false, ite_true, ite_false, Nat.reduceAdd, Int.reduceToNat, Int.reducePow, Nat.reducePow, Int.reduceMul, Int.reduceAdd, Int.reduceSub, Int.reduceLT, Int.reduceLE, Nat.reduceMul, Int.cast_ofNat_Int, Nat.reduceSub, Nat.reduceLT, Nat.reduceLeDiff, ne_eq, reduceCtorEq, not_false_eq_true, not_true_eq_false, Int.reduceEq, Int.reduceNeg, Bool.false_eq_true, Bool.not_true, Bool.not_false, decide_true, decide_false, true_and, and_true, false_and, and_false, or_true, true_or, or_false, false_or, id_eq, Bool.true_eq_false, decide_eq_true_eq, Bool.not_eq_true', decide_eq_false_iff_not, Bool.not_not, blsD, List.all_cons, List.all_nil, List.any_cons, List.any_nil, Bool.and_self, Bool.and_true, Bool.or_false, dFor, dLc, itL, wipeD, backD, isi_NoneType_bool, isi_NoneType_int, isi_NoneType_str, isi_NoneType_tuple, isi_NoneType_list, isi_NoneType_dict, isi_bool_bool, isi_bool_int, isi_bool_str, isi_bool_tuple, isi_bool_list, isi_bool_dict, isi_int_bool, isi_int_int, isi_int_str, isi_int_tuple, isi_int_list, isi_int_dict, isi_str_bool, isi_str_int, isi_str_str, isi_str_tuple, isi_str_list, isi_str_dict, isi_tuple_bool, isi_tuple_int, isi_tuple_str, isi_tuple_tuple, isi_tuple_list, isi_tuple_dict, isi_list_bool, isi_list_int, isi_list_str, isi_list_tuple, isi_list_list, isi_list_dict, isi_dict_bool, isi_dict_int, isi_dict_str, isi_dict_tuple, isi_dict_list, isi_dict_dict, dSlD, dCatN, dLcA, dLcX, dForA, dForX, gStr1, gIsiS, tagS, dJoinS, dIsStr, strsO, gStrA, dRaiseF, dPut, flatV, pin, a0, mL, mF, uz, q, z0, c0, w2]
          · have hc' := eq_false hc
            rw [hc'] at c0
            have w2 : (wd ⟨(c :: cs).toArray⟩) = True := by rw [w]; simp [hc]
            simp only [g_law_is_word, den_law_is_word, runD, dD, dNil, dCons, dAnd, dOr, dNotT, dAndV, dOrV, dNotV, dIf, dTru, dCmpT, dSeq, dRet, dSet, dSetN, dIfS, dNx, dDrop, dOp, dNeg, dTup, dLst, dC, dK, dVar, okD, okN, frz, dCall, ofF, dAug, dPar, dApp, dChain, dListOf, dSlL, dRev,
  M.bind, M.pure, M.no, M.ne, dName, dUnit, dConsG, dTupG, gOr, gI, gS, gAdd, gSubI, gMul, gDiv, gMod, gPow, gIx, gLen, gAbs, gInt1, gSum, gAll, gAny, gMaxL, gMinL, gTupOf, g2I, gDm, gPart, gTru, gBool, gBoolO, gEq_pair, gEq_ints, gEq_sl1, gEq_sl2, opL, gEq_int, gEq_str, gEq_bl, gEq_non, gNone, gIn, gSign, gCat, gRep, gIsi,
  iLt, iLe, iGt, iGe, My.isNon, truD, tagD, seqD, lstD, rdlD, mutD, putL, tupD, vsD, rng1X, rng2X, enuX, zipX, seqX,
  Option.bind, Option.map, Option.bind_some, Option.map_some,
  List.map_cons, List.map_nil, List.length_cons, List.length_nil, List.nil_append, List.cons_append, List.replicate, List.getElem?_cons_zero, List.getElem?_cons_succ, List.set_cons_zero, List.set_cons_succ, List.append_nil,
  if_true, if_false, ite_true, ite_false, Nat.reduceAdd, Int.reduceToNat, Int.reducePow, Nat.reducePow, Int.reduceMul, Int.reduceAdd, Int.reduceSub, Int.reduceLT, Int.reduceLE, Nat.reduceMul, Int.cast_ofNat_Int, Nat.reduceSub, Nat.reduceLT, Nat.reduceLeDiff, ne_eq, reduceCtorEq, not_false_eq_true, not_true_eq_false, Int.reduceEq, Int.reduceNeg, Bool.false_eq_true, Bool.not_true, Bool.not_false, decide_true, decide_false, true_and, and_true, false_and, and_false, or_true, true_or, or_false, false_or, id_eq, Bool.true_eq_false, decide_eq_true_eq, Bool.not_eq_true', decide_eq_false_iff_not, Bool.not_not, blsD, List.all_cons, List.all_nil, List.any_cons, List.any_nil, Bool.and_self, Bool.and_true, Bool.or_false, dFor, dLc, itL, wipeD, backD, isi_NoneType_bool, isi_NoneType_int, isi_NoneType_str, isi_NoneType_tuple, isi_NoneType_list, isi_NoneType_dict, isi_bool_bool, isi_bool_int, isi_bool_str, isi_bool_tuple, isi_bool_list, isi_bool_dict, isi_int_bool, isi_int_int, isi_int_str, isi_int_tuple, isi_int_list, isi_int_dict, isi_str_bool, isi_str_int, isi_str_str, isi_str_tuple, isi_str_list, isi_str_dict, isi_tuple_bool, isi_tuple_int, isi_tuple_str, isi_tuple_tuple, isi_tuple_list, isi_tuple_dict, isi_list_bool, isi_list_int, isi_list_str, isi_list_tuple, isi_list_list, isi_list_dict, isi_dict_bool, isi_dict_int, isi_dict_str, isi_dict_tuple, isi_dict_list, isi_dict_dict, dSlD, dCatN, dLcA, dLcX, dForA, dForX, gStr1, gIsiS, tagS, dJoinS, dIsStr, strsO, gStrA, dRaiseF, dPut, flatV, pin, a0, mL, mF, uz, q, z0, c0, w2]
      · have q : (((⟨(c :: cs).toArray⟩ : Str).length : Int) < 5) = False := eq_false (by rw [l1]; omega)
        have h5' := eq_false h5
        rw [h5', false_and] at w
        simp only [g_law_is_word, den_law_is_word, runD, dD, dNil, dCons, dAnd, dOr, dNotT, dAndV, dOrV, dNotV, dIf, dTru, dCmpT, dSeq, dRet, dSet, dSetN, dIfS, dNx, dDrop, dOp, dNeg, dTup, dLst, dC, dK, dVar, okD, okN, frz, dCall, ofF, dAug, dPar, dApp, dChain, dListOf, dSlL, dRev,
  M.bind, M.pure, M.no, M.ne, dName, dUnit, dConsG, dTupG, gOr, gI, gS, gAdd, gSubI, gMul, gDiv, gMod, gPow, gIx, gLen, gAbs, gInt1, gSum, gAll, gAny, gMaxL, gMinL, gTupOf, g2I, gDm, gPart, gTru, gBool, gBoolO, gEq_pair, gEq_ints, gEq_sl1, gEq_sl2, opL, gEq_int, gEq_str, gEq_bl, gEq_non, gNone, gIn, gSign, gCat, gRep, gIsi,
  iLt, iLe, iGt, iGe, My.isNon, truD, tagD, seqD, lstD, rdlD, mutD, putL, tupD, vsD, rng1X, rng2X, enuX, zipX, seqX,
  Option.bind, Option.map, Option.bind_some, Option.map_some,
  List.map_cons, List.map_nil, List.length_cons, List.length_nil, List.nil_append, List.cons_append, List.replicate, List.getElem?_cons_zero, List.getElem?_cons_succ, List.set_cons_zero, List.set_cons_succ, List.append_nil,
  if_true, if_false, ite_true, ite_false, Nat.reduceAdd, Int.reduceToNat, Int.reducePow, Nat.reducePow, Int.reduceMul, Int.reduceAdd, Int.reduceSub, Int.reduceLT, Int.reduceLE, Nat.reduceMul, Int.cast_ofNat_Int, Nat.reduceSub, Nat.reduceLT, Nat.reduceLeDiff, ne_eq, reduceCtorEq, not_false_eq_true, not_true_eq_false, Int.reduceEq, Int.reduceNeg, Bool.false_eq_true, Bool.not_true, Bool.not_false, decide_true, decide_false, true_and, and_true, false_and, and_false, or_true, true_or, or_false, false_or, id_eq, Bool.true_eq_false, decide_eq_true_eq, Bool.not_eq_true', decide_eq_false_iff_not, Bool.not_not, blsD, List.all_cons, List.all_nil, List.any_cons, List.any_nil, Bool.and_self, Bool.and_true, Bool.or_false, dFor, dLc, itL, wipeD, backD, isi_NoneType_bool, isi_NoneType_int, isi_NoneType_str, isi_NoneType_tuple, isi_NoneType_list, isi_NoneType_dict, isi_bool_bool, isi_bool_int, isi_bool_str, isi_bool_tuple, isi_bool_list, isi_bool_dict, isi_int_bool, isi_int_int, isi_int_str, isi_int_tuple, isi_int_list, isi_int_dict, isi_str_bool, isi_str_int, isi_str_str, isi_str_tuple, isi_str_list, isi_str_dict, isi_tuple_bool, isi_tuple_int, isi_tuple_str, isi_tuple_tuple, isi_tuple_list, isi_tuple_dict, isi_list_bool, isi_list_int, isi_list_str, isi_list_tuple, isi_list_list, isi_list_dict, isi_dict_bool, isi_dict_int, isi_dict_str, isi_dict_tuple, isi_dict_list, isi_dict_dict, dSlD, dCatN, dLcA, dLcX, dForA, dForX, gStr1, gIsiS, tagS, dJoinS, dIsStr, strsO, gStrA, dRaiseF, dPut, flatV, pin, a0, mL, mF, uz, q, w]
    · cases e2
      have t1 := eq_false k1
      have t2 := eq_false k2
      rw [t1] at mL
      rw [t2] at mF
      have w : wd ⟨[c].toArray⟩ = False := eq_false fun h => h46 (by rcases (wd_one k1 k2).mp h with rfl | rfl <;> simp)
      simp only [g_law_is_word, den_law_is_word, runD, dD, dNil, dCons, dAnd, dOr, dNotT, dAndV, dOrV, dNotV, dIf, dTru, dCmpT, dSeq, dRet, dSet, dSetN, dIfS, dNx, dDrop, dOp, dNeg, dTup, dLst, dC, dK, dVar, okD, okN, frz, dCall, ofF, dAug, dPar, dApp, dChain, dListOf, dSlL, dRev,
  M.bind, M.pure, M.no, M.ne, dName, dUnit, dConsG, dTupG, gOr, gI, gS, gAdd, gSubI, gMul, gDiv, gMod, gPow, gIx, gLen, gAbs, gInt1, gSum, gAll, gAny, gMaxL, gMinL, gTupOf, g2I, gDm, gPart, gTru, gBool, gBoolO, gEq_pair, gEq_ints, gEq_sl1, gEq_sl2, opL, gEq_int, gEq_str, gEq_bl, gEq_non, gNone, gIn, gSign, gCat, gRep, gIsi,
  iLt, iLe, iGt, iGe, My.isNon, truD, tagD, seqD, lstD, rdlD, mutD, putL, tupD, vsD, rng1X, rng2X, enuX, zipX, seqX,
  Option.bind, Option.map, Option.bind_some, Option.map_some,
  List.map_cons, List.map_nil, List.length_cons, List.length_nil, List.nil_append, List.cons_append, List.replicate, List.getElem?_cons_zero, List.getElem?_cons_succ, List.set_cons_zero, List.set_cons_succ, List.append_nil,
  if_true, if_false, ite_true, ite_false, Nat.reduceAdd, Int.reduceToNat, Int.reducePow, Nat.reducePow, Int.reduceMul, Int.reduceAdd, Int.reduceSub, Int.reduceLT, Int.reduceLE, Nat.reduceMul, Int.cast_ofNat_Int, Nat.reduceSub, Nat.reduceLT, Nat.reduceLeDiff, ne_eq, reduceCtorEq, not_false_eq_true, not_true_eq_false, Int.reduceEq, Int.reduceNeg, Bool.false_eq_true, Bool.not_true, Bool.not_false, decide_true, decide_false, true_and, and_true, false_and, and_false, or_true, true_or, or_false, false_or, id_eq, Bool.true_eq_false, decide_eq_true_eq, Bool.not_eq_true', decide_eq_false_iff_not, Bool.not_not, blsD, List.all_cons, List.all_nil, List.any_cons, List.any_nil, Bool.and_self, Bool.and_true, Bool.or_false, dFor, dLc, itL, wipeD, backD, isi_NoneType_bool, isi_NoneType_int, isi_NoneType_str, isi_NoneType_tuple, isi_NoneType_list, isi_NoneType_dict, isi_bool_bool, isi_bool_int, isi_bool_str, isi_bool_tuple, isi_bool_list, isi_bool_dict, isi_int_bool, isi_int_int, isi_int_str, isi_int_tuple, isi_int_list, isi_int_dict, isi_str_bool, isi_str_int, isi_str_str, isi_str_tuple, isi_str_list, isi_str_dict, isi_tuple_bool, isi_tuple_int, isi_tuple_str, isi_tuple_tuple, isi_tuple_list, isi_tuple_dict, isi_list_bool, isi_list_int, isi_list_str, isi_list_tuple, isi_list_list, isi_list_dict, isi_dict_bool, isi_dict_int, isi_dict_str, isi_dict_tuple, isi_dict_list, isi_dict_dict, dSlD, dCatN, dLcA, dLcX, dForA, dForX, gStr1, gIsiS, tagS, dJoinS, dIsStr, strsO, gStrA, dRaiseF, dPut, flatV, pin, a0, mL, mF, uz, w]
theorem ok_law_is_word (T : Tx K mg Env.HallError Env.BadSign Env.BadText Env.BadName Env.BadNumber Env.BadRing Env.BadLoan Env.TooMany Env.NoDoor Env.BadChange Env.BadKept) : Okf P w K mg base 1 "_law_is_word" ["_law_run"] g_law_is_word := (raw_law_is_word T ).by eq_law_is_word
abbrev slaw_kinds : Stmt := (top 33)
abbrev Nlaw_kinds : List Str := ["_law_e", "_law_found"]
theorem sclaw_kinds : FnScope Nlaw_kinds ["_law_e"] (defScope slaw_kinds) := ⟨rfl, rfl, rfl, by decide +kernel, rfl, by decide +kernel, by decide +kernel⟩
noncomputable def den_law_kinds (xa : Addr) (xd : Option Addr) (xc : Value) : M Fl :=
    (dSeq (dSetN 1 (dLst (dCons (M.bind (dD (dVar 0)) (gIsE xa xd xc Ex_BadSign)) (dCons (M.bind (dD (dVar 0)) (gIsE xa xd xc Ex_BadText)) (dCons (M.bind (dD (dVar 0)) (gIsE xa xd xc Ex_BadName)) (dCons (M.bind (dD (dVar 0)) (gIsE xa xd xc Ex_BadNumber)) dNil))))))
    (dSeq (dSet 1 (dOp gAdd (dVar 1) (okN (dLst (dCons (M.bind (dD (dVar 0)) (gIsE xa xd xc Ex_BadRing)) (dCons (M.bind (dD (dVar 0)) (gIsE xa xd xc Ex_BadLoan)) (dCons (M.bind (dD (dVar 0)) (gIsE xa xd xc Ex_TooMany)) (dCons (M.bind (dD (dVar 0)) (gIsE xa xd xc Ex_NoDoor)) dNil))))))))
    (dSeq (dSet 1 (dOp gAdd (dVar 1) (okN (dLst (dCons (M.bind (dD (dVar 0)) (gIsE xa xd xc Ex_BadChange)) (dCons (M.bind (dD (dVar 0)) (gIsE xa xd xc Ex_BadKept)) dNil))))))
    (dRet (dD (dIf (dTru (okD (M.bind (dD (dVar 0)) (gIsE xa xd xc Ex_ValueError)))) (dVar 1) (okN (dLst dNil))))))))
noncomputable def g_law_kinds (xa : Addr) (xd : Option Addr) (xc : Value) : G := runD 2 1 (den_law_kinds xa xd xc)
theorem ok_law_kinds (T : Tx K mg Env.HallError Env.BadSign Env.BadText Env.BadName Env.BadNumber Env.BadRing Env.BadLoan Env.TooMany Env.NoDoor Env.BadChange Env.BadKept) : OkP P w K mg base 1 "_law_kinds" ["_law_e"] g_law_kinds := by
  have sc := sclaw_kinds
  exact okp_has (N := Nlaw_kinds) T.d_law_kinds sc rfl (by decide) fun xa oe xc xd hz hv f cdv A outer s H E => ⟨_, ((bd_cons (sd_setN (i := 1) sc.nd rfl (by first | exact Or.inl rfl | exact Or.inr rfl) (en_lst (ad_cons (dd_isE (vv := .ref Env.BadSign) List.mem_cons_self hz hv (exT_BadSign T) (by rfl) T.n_isinstance (by decide +kernel) (ED.d (ed_var 0)) (pe_glob (by rfl) T.g_BadSign (by rfl)) (by intro _ h; exact h)) (ad_cons (dd_isE (vv := .ref Env.BadText) List.mem_cons_self hz hv (exT_BadText T) (by rfl) T.n_isinstance (by decide +kernel) (ED.d (ed_var 0)) (pe_glob (by rfl) T.g_BadText (by rfl)) (by intro _ h; exact h)) (ad_cons (dd_isE (vv := .ref Env.BadName) List.mem_cons_self hz hv (exT_BadName T) (by rfl) T.n_isinstance (by decide +kernel) (ED.d (ed_var 0)) (pe_glob (by rfl) T.g_BadName (by rfl)) (by intro _ h; exact h)) (ad_cons (dd_isE (vv := .ref Env.BadNumber) List.mem_cons_self hz hv (exT_BadNumber T) (by rfl) T.n_isinstance (by decide +kernel) (ED.d (ed_var 0)) (pe_glob (by rfl) T.g_BadNumber (by rfl)) (by intro _ h; exact h)) ad_nil))))))
    (bd_cons (sd_set (i := 1) sc.nd rfl (by first | exact Or.inl rfl | exact Or.inr rfl) (dd_add (ed_var 1) (EN.e (en_lst (ad_cons (dd_isE (vv := .ref Env.BadRing) List.mem_cons_self hz hv (exT_BadRing T) (by rfl) T.n_isinstance (by decide +kernel) (ED.d (ed_var 0)) (pe_glob (by rfl) T.g_BadRing (by rfl)) (by intro _ h; exact h)) (ad_cons (dd_isE (vv := .ref Env.BadLoan) List.mem_cons_self hz hv (exT_BadLoan T) (by rfl) T.n_isinstance (by decide +kernel) (ED.d (ed_var 0)) (pe_glob (by rfl) T.g_BadLoan (by rfl)) (by intro _ h; exact h)) (ad_cons (dd_isE (vv := .ref Env.TooMany) List.mem_cons_self hz hv (exT_TooMany T) (by rfl) T.n_isinstance (by decide +kernel) (ED.d (ed_var 0)) (pe_glob (by rfl) T.g_TooMany (by rfl)) (by intro _ h; exact h)) (ad_cons (dd_isE (vv := .ref Env.NoDoor) List.mem_cons_self hz hv (exT_NoDoor T) (by rfl) T.n_isinstance (by decide +kernel) (ED.d (ed_var 0)) (pe_glob (by rfl) T.g_NoDoor (by rfl)) (by intro _ h; exact h)) ad_nil))))))))
    (bd_cons (sd_set (i := 1) sc.nd rfl (by first | exact Or.inl rfl | exact Or.inr rfl) (dd_add (ed_var 1) (EN.e (en_lst (ad_cons (dd_isE (vv := .ref Env.BadChange) List.mem_cons_self hz hv (exT_BadChange T) (by rfl) T.n_isinstance (by decide +kernel) (ED.d (ed_var 0)) (pe_glob (by rfl) T.g_BadChange (by rfl)) (by intro _ h; exact h)) (ad_cons (dd_isE (vv := .ref Env.BadKept) List.mem_cons_self hz hv (exT_BadKept T) (by rfl) T.n_isinstance (by decide +kernel) (ED.d (ed_var 0)) (pe_glob (by rfl) T.g_BadKept (by rfl)) (by intro _ h; exact h)) ad_nil))))))
    (bd_one (sd_ret (ED.d (ed_if (td_val (DD.e (dd_isE (vv := .ty "ValueError") List.mem_cons_self hz hv (exT_ValueError T) (by rfl) T.n_isinstance (by decide +kernel) (ED.d (ed_var 0)) (pe_bltn (u := .type "ValueError") (by rfl) T.n_ValueError (by decide +kernel) (by rfl)) (by intro _ h; exact h)))) (ed_var 1) (EN.e (en_lst ad_nil))))))))) : BD _ _ _ _ (den_law_kinds xa xd xc))⟩

def tenB : List D := [.v (.bl true), .v (.bl false), .v (.bl false), .v (.bl false), .v (.bl false), .v (.bl false), .v (.bl false), .v (.bl false), .v (.bl false), .v (.bl false)]
theorem kinds_ok (a : Addr) (od : Option Addr) (fld : Option (Str × D)) (S : List Cell) : g_law_kinds a od (.ref Env.BadSign) [.exn a od (.ref Env.BadSign) fld] S = .ok (.lst tenB) S := by
  have i1 := gIsE_ok (a := a) (od := od) (fld := fld) (tbl := Ex_BadSign) (C := Env.BadSign) (b := true) (by simp [Ex_BadSign])
  have i2 := gIsE_ok (a := a) (od := od) (fld := fld) (tbl := Ex_BadText) (C := Env.BadSign) (b := false) (by simp [Ex_BadText])
  have i3 := gIsE_ok (a := a) (od := od) (fld := fld) (tbl := Ex_BadName) (C := Env.BadSign) (b := false) (by simp [Ex_BadName])
  have i4 := gIsE_ok (a := a) (od := od) (fld := fld) (tbl := Ex_BadNumber) (C := Env.BadSign) (b := false) (by simp [Ex_BadNumber])
  have i5 := gIsE_ok (a := a) (od := od) (fld := fld) (tbl := Ex_BadRing) (C := Env.BadSign) (b := false) (by simp [Ex_BadRing])
  have i6 := gIsE_ok (a := a) (od := od) (fld := fld) (tbl := Ex_BadLoan) (C := Env.BadSign) (b := false) (by simp [Ex_BadLoan])
  have i7 := gIsE_ok (a := a) (od := od) (fld := fld) (tbl := Ex_TooMany) (C := Env.BadSign) (b := false) (by simp [Ex_TooMany])
  have i8 := gIsE_ok (a := a) (od := od) (fld := fld) (tbl := Ex_NoDoor) (C := Env.BadSign) (b := false) (by simp [Ex_NoDoor])
  have i9 := gIsE_ok (a := a) (od := od) (fld := fld) (tbl := Ex_BadChange) (C := Env.BadSign) (b := false) (by simp [Ex_BadChange])
  have i0 := gIsE_ok (a := a) (od := od) (fld := fld) (tbl := Ex_BadKept) (C := Env.BadSign) (b := false) (by simp [Ex_BadKept])
  have iv := gIsE_ok (a := a) (od := od) (fld := fld) (tbl := Ex_ValueError) (C := Env.BadSign) (b := true) (by simp [Ex_ValueError])
  simp only [g_law_kinds, den_law_kinds, runD, dD, dNil, dCons, dAnd, dOr, dNotT, dAndV, dOrV, dNotV, dIf, dTru, dCmpT, dSeq, dRet, dSet, dSetN, dIfS, dNx, dDrop, dOp, dNeg, dTup, dLst, dC, dK, dVar, okD, okN, frz, dCall, ofF, dAug, dPar, dApp, dChain, dListOf, dSlL, dRev,
  M.bind, M.pure, M.no, M.ne, dName, dUnit, dConsG, dTupG, gOr, gI, gS, gAdd, gSubI, gMul, gDiv, gMod, gPow, gIx, gLen, gAbs, gInt1, gSum, gAll, gAny, gMaxL, gMinL, gTupOf, g2I, gDm, gPart, gTru, gBool, gBoolO, gEq_pair, gEq_ints, gEq_sl1, gEq_sl2, opL, gEq_int, gEq_str, gEq_bl, gEq_non, gNone, gIn, gSign, gCat, gRep, gIsi,
  iLt, iLe, iGt, iGe, My.isNon, truD, tagD, seqD, lstD, rdlD, mutD, putL, tupD, vsD, rng1X, rng2X, enuX, zipX, seqX,
  Option.bind, Option.map, Option.bind_some, Option.map_some,
  List.map_cons, List.map_nil, List.length_cons, List.length_nil, List.nil_append, List.cons_append, List.replicate, List.getElem?_cons_zero, List.getElem?_cons_succ, List.set_cons_zero, List.set_cons_succ, List.append_nil,
  if_true, if_false, ite_true, ite_false, Nat.reduceAdd, Int.reduceToNat, Int.reducePow, Nat.reducePow, Int.reduceMul, Int.reduceAdd, Int.reduceSub, Int.reduceLT, Int.reduceLE, Nat.reduceMul, Int.cast_ofNat_Int, Nat.reduceSub, Nat.reduceLT, Nat.reduceLeDiff, ne_eq, reduceCtorEq, not_false_eq_true, not_true_eq_false, Int.reduceEq, Int.reduceNeg, Bool.false_eq_true, Bool.not_true, Bool.not_false, decide_true, decide_false, true_and, and_true, false_and, and_false, or_true, true_or, or_false, false_or, id_eq, Bool.true_eq_false, decide_eq_true_eq, Bool.not_eq_true', decide_eq_false_iff_not, Bool.not_not, blsD, List.all_cons, List.all_nil, List.any_cons, List.any_nil, Bool.and_self, Bool.and_true, Bool.or_false, dFor, dLc, itL, wipeD, backD, isi_NoneType_bool, isi_NoneType_int, isi_NoneType_str, isi_NoneType_tuple, isi_NoneType_list, isi_NoneType_dict, isi_bool_bool, isi_bool_int, isi_bool_str, isi_bool_tuple, isi_bool_list, isi_bool_dict, isi_int_bool, isi_int_int, isi_int_str, isi_int_tuple, isi_int_list, isi_int_dict, isi_str_bool, isi_str_int, isi_str_str, isi_str_tuple, isi_str_list, isi_str_dict, isi_tuple_bool, isi_tuple_int, isi_tuple_str, isi_tuple_tuple, isi_tuple_list, isi_tuple_dict, isi_list_bool, isi_list_int, isi_list_str, isi_list_tuple, isi_list_list, isi_list_dict, isi_dict_bool, isi_dict_int, isi_dict_str, isi_dict_tuple, isi_dict_list, isi_dict_dict, i1, i2, i3, i4, i5, i6, i7, i8, i9, i0, iv, tenB]
abbrev slaw_mixed : Stmt := (top 25)
abbrev Nlaw_mixed : List Str := ["_law_cell", "_law_k"]
theorem sclaw_mixed : FnScope Nlaw_mixed ["_law_cell", "_law_k"] (defScope slaw_mixed) := ⟨rfl, rfl, rfl, by decide +kernel, rfl, by decide +kernel, by decide +kernel⟩
noncomputable def den_law_mixed : M Fl :=
    (dRet (dOp gMod (okD (dOp gAdd (okD (dOp gMul (okD (dOp gAdd (okD (dOp gMod (dVar 0) (dC (.int 1000003)))) (dC (.int 7)))) (okD (dOp gAdd (okD (dOp gMul (okD (dOp gMul (dC (.int 31)) (dVar 1))) (dVar 1))) (dC (.int 48271)))))) (okD (dOp gMul (okD (dOp gDiv (dVar 0) (dC (.int 1000003)))) (dC (.int 16807)))))) (dC (.int 2147483629))))
theorem raw_law_mixed (T : Tx K mg Env.HallError Env.BadSign Env.BadText Env.BadName Env.BadNumber Env.BadRing Env.BadLoan Env.TooMany Env.NoDoor Env.BadChange Env.BadKept) : Okf P w K mg base 1 "_law_mixed" ["_law_cell", "_law_k"] (runD 2 2 den_law_mixed) := by
  have sc := sclaw_mixed
  exact ok_has (N := Nlaw_mixed) T.d_law_mixed sc rfl (by decide) fun f cdv A outer s H E hr => ⟨_, ((bd_one (sd_ret (dd_mod (DD.e (dd_add (DD.e (dd_mul (DD.e (dd_add (DD.e (dd_mod (ed_var 0) ed_int)) ed_int)) (DD.e (dd_add (DD.e (dd_mul (DD.e (dd_mul ed_int (ed_var 1))) (ed_var 1))) ed_int)))) (DD.e (dd_mul (DD.e (dd_div (ed_var 0) ed_int)) ed_int)))) ed_int))) : BD _ _ _ _ den_law_mixed)⟩

def mixed (c k : Int) : Int := ((c.fmod 1000003 + 7) * (31 * k * k + 48271) + c.fdiv 1000003 * 16807).fmod 2147483629
def g_law_mixed : G := fun ds S => match ds with
  | [.v (.int c), .v (.int k)] => if k.natAbs < 2 ^ 64 then .ok (.v (.int (mixed c k))) S else .no
  | _ => .no
theorem eq_law_mixed : ∀ ds S, g_law_mixed ds S ≠ .no → runD 2 2 den_law_mixed ds S = g_law_mixed ds S := fun ds S h => by
  unfold g_law_mixed at h ⊢
  split at h
  · next c k =>
    split at h
    · next hk =>
      rw [if_pos hk]
      have b := fmod_bd (c := c) (m := 1000003) (by decide)
      have m1 : mulOk 31 k := mulOk_l (by decide)
      have m2 : mulOk (31 * k) k := mulOk_r hk
      have m3 : mulOk (c.fmod 1000003 + 7) (31 * k * k + 48271) := mulOk_l (by omega)
      have m4 : mulOk (c.fdiv 1000003) 16807 := mulOk_r (by decide)
      have d1 : divOk 1000003 := divOk_s (by decide) (by decide)
      simp only [den_law_mixed, runD, dD, dNil, dCons, dAnd, dOr, dNotT, dAndV, dOrV, dNotV, dIf, dTru, dCmpT, dSeq, dRet, dSet, dSetN, dIfS, dNx, dDrop, dOp, dNeg, dTup, dLst, dC, dK, dVar, okD, okN, frz, dCall, ofF, dAug, dPar, dApp, dChain, dListOf, dSlL, dRev,
  M.bind, M.pure, M.no, M.ne, dName, dUnit, dConsG, dTupG, gOr, gI, gS, gAdd, gSubI, gMul, gDiv, gMod, gPow, gIx, gLen, gAbs, gInt1, gSum, gAll, gAny, gMaxL, gMinL, gTupOf, g2I, gDm, gPart, gTru, gBool, gBoolO, gEq_pair, gEq_ints, gEq_sl1, gEq_sl2, opL, gEq_int, gEq_str, gEq_bl, gEq_non, gNone, gIn, gSign, gCat, gRep, gIsi,
  iLt, iLe, iGt, iGe, My.isNon, truD, tagD, seqD, lstD, rdlD, mutD, putL, tupD, vsD, rng1X, rng2X, enuX, zipX, seqX,
  Option.bind, Option.map, Option.bind_some, Option.map_some,
  List.map_cons, List.map_nil, List.length_cons, List.length_nil, List.nil_append, List.cons_append, List.replicate, List.getElem?_cons_zero, List.getElem?_cons_succ, List.set_cons_zero, List.set_cons_succ, List.append_nil,
  if_true, if_false, ite_true, ite_false, Nat.reduceAdd, Int.reduceToNat, Int.reducePow, Nat.reducePow, Int.reduceMul, Int.reduceAdd, Int.reduceSub, Int.reduceLT, Int.reduceLE, Nat.reduceMul, Int.cast_ofNat_Int, Nat.reduceSub, Nat.reduceLT, Nat.reduceLeDiff, ne_eq, reduceCtorEq, not_false_eq_true, not_true_eq_false, Int.reduceEq, Int.reduceNeg, Bool.false_eq_true, Bool.not_true, Bool.not_false, decide_true, decide_false, true_and, and_true, false_and, and_false, or_true, true_or, or_false, false_or, id_eq, Bool.true_eq_false, decide_eq_true_eq, Bool.not_eq_true', decide_eq_false_iff_not, Bool.not_not, blsD, List.all_cons, List.all_nil, List.any_cons, List.any_nil, Bool.and_self, Bool.and_true, Bool.or_false, dFor, dLc, itL, wipeD, backD, isi_NoneType_bool, isi_NoneType_int, isi_NoneType_str, isi_NoneType_tuple, isi_NoneType_list, isi_NoneType_dict, isi_bool_bool, isi_bool_int, isi_bool_str, isi_bool_tuple, isi_bool_list, isi_bool_dict, isi_int_bool, isi_int_int, isi_int_str, isi_int_tuple, isi_int_list, isi_int_dict, isi_str_bool, isi_str_int, isi_str_str, isi_str_tuple, isi_str_list, isi_str_dict, isi_tuple_bool, isi_tuple_int, isi_tuple_str, isi_tuple_tuple, isi_tuple_list, isi_tuple_dict, isi_list_bool, isi_list_int, isi_list_str, isi_list_tuple, isi_list_list, isi_list_dict, isi_dict_bool, isi_dict_int, isi_dict_str, isi_dict_tuple, isi_dict_list, isi_dict_dict, m1, m2, m3, m4, d1, mixed]
    · exact absurd rfl h
  · exact absurd rfl h
theorem gx (c k : Int) (S : List Cell) (h : k.natAbs < 2 ^ 64) : g_law_mixed [.v (.int c), .v (.int k)] S = .ok (.v (.int (mixed c k))) S := if_pos h
theorem mixed_bd (c k : Int) : 0 ≤ mixed c k ∧ mixed c k < 2147483629 := fmod_bd (by decide)
theorem ok_law_mixed (T : Tx K mg Env.HallError Env.BadSign Env.BadText Env.BadName Env.BadNumber Env.BadRing Env.BadLoan Env.TooMany Env.NoDoor Env.BadChange Env.BadKept) : Okf P w K mg base 1 "_law_mixed" ["_law_cell", "_law_k"] g_law_mixed := (raw_law_mixed T ).by eq_law_mixed
abbrev slaw_odd : Stmt := (top 28)
abbrev Nlaw_odd : List Str := ["_law_cell", "_law_more", "_law_some"]
theorem sclaw_odd : FnScope Nlaw_odd ["_law_cell"] (defScope slaw_odd) := ⟨rfl, rfl, rfl, by decide +kernel, rfl, by decide +kernel, by decide +kernel⟩
noncomputable def den_law_odd : M Fl :=
    (dSeq (dSet 1 (dOp gDiv (dVar 0) (dC (.int 5))))
    (dSeq (dSet 2 (dD (dC (.str "!\"#$&'()*+-/:;<=>?@ABCDEFGHIJKLMNOPQRSTUVWXYZ[\\]^_`{|}~	"))))
    (dSeq (dIfS (dCmpT (gI iLt) (okD (dOp gMod (dVar 0) (dC (.int 5)))) (dC (.int 2))) (dRet (dOp gIx (dVar 2) (okD (dOp gMod (dVar 1) (okD (M.bind (dVar 2) gLen)))))) dNx)
    (dSeq (dIfS (dCmpT (gEq false) (okD (dOp gMod (dVar 0) (dC (.int 5)))) (dC (.int 2))) (dRet (dSlD (dC (.str "abcdefghijk")) (M.pure none) (M.bind (okD (dOp gAdd (dC (.int 8)) (okD (dOp gMod (dVar 1) (dC (.int 3)))))) gPart))) dNx)
    (dSeq (dIfS (dCmpT (gEq false) (okD (dOp gMod (dVar 0) (dC (.int 5)))) (dC (.int 3))) (dRet (dSlD (dC (.str "98765")) (M.pure none) (M.bind (okD (dOp gAdd (dC (.int 4)) (okD (dOp gMod (dVar 1) (dC (.int 2)))))) gPart))) dNx)
    (dRet (dOp gIx (okN (dLst (dCons (dD (dC (.str "00"))) (dCons (dD (dC (.str "01"))) (dCons (dD (dC (.str "007"))) (dCons (dD (dC (.str "0"))) (dCons (dD (dC (.str "0a"))) (dCons (dD (dC (.str "a0"))) (dCons (dD (dC (.str ".."))) (dCons (dD (dC (.str ",."))) (dCons (dD (dC (.str "0 0"))) (dCons (dD (dC (.str "0000"))) dNil)))))))))))) (okD (dOp gMod (dVar 1) (dC (.int 10)))))))))))
theorem raw_law_odd (T : Tx K mg Env.HallError Env.BadSign Env.BadText Env.BadName Env.BadNumber Env.BadRing Env.BadLoan Env.TooMany Env.NoDoor Env.BadChange Env.BadKept) : Okf P w K mg base 1 "_law_odd" ["_law_cell"] (runD 3 1 den_law_odd) := by
  have sc := sclaw_odd
  exact ok_has (N := Nlaw_odd) T.d_law_odd sc rfl (by decide) fun f cdv A outer s H E hr => ⟨_, ((bd_cons (sd_set (i := 1) sc.nd rfl (by first | exact Or.inl rfl | exact Or.inr rfl) (dd_div (ed_var 0) ed_int))
    (bd_cons (sd_set (i := 2) sc.nd rfl (by first | exact Or.inl rfl | exact Or.inr rfl) (ED.d ed_str))
    (bd_cons (sd_if (td_cmp cLt (DD.e (dd_mod (ed_var 0) ed_int)) ed_int (nomark _)) (bd_one (sd_ret (dd_ix (ed_var 2) (DD.e (dd_mod (ed_var 1) (DD.e (dd_b1 bLen (by rfl) T.n_len (by decide +kernel) (ed_var 2))))) (fun _ _ => rfl)))) bd_nil)
    (bd_cons (sd_if (td_cmp (cEq hr.units) (DD.e (dd_mod (ed_var 0) ed_int)) ed_int (nomark _)) (bd_one (sd_ret (dd_sl ed_str od_none (od_some (DD.e (dd_add ed_int (DD.e (dd_mod (ed_var 1) ed_int)))))))) bd_nil)
    (bd_cons (sd_if (td_cmp (cEq hr.units) (DD.e (dd_mod (ed_var 0) ed_int)) ed_int (nomark _)) (bd_one (sd_ret (dd_sl ed_str od_none (od_some (DD.e (dd_add ed_int (DD.e (dd_mod (ed_var 1) ed_int)))))))) bd_nil)
    (bd_one (sd_ret (dd_ix (EN.e (en_lst (ad_cons (ED.d ed_str) (ad_cons (ED.d ed_str) (ad_cons (ED.d ed_str) (ad_cons (ED.d ed_str) (ad_cons (ED.d ed_str) (ad_cons (ED.d ed_str) (ad_cons (ED.d ed_str) (ad_cons (ED.d ed_str) (ad_cons (ED.d ed_str) (ad_cons (ED.d ed_str) ad_nil)))))))))))) (DD.e (dd_mod (ed_var 1) ed_int)) (fun _ _ => rfl))))))))) : BD _ _ _ _ den_law_odd)⟩
noncomputable def g_law_odd : G := runD 3 1 den_law_odd
theorem eq_law_odd : ∀ ds S, g_law_odd ds S ≠ .no → runD 3 1 den_law_odd ds S = g_law_odd ds S := fun _ _ _ => rfl

theorem at_ex {α : Type} {xs : List α} {i : Int} (h0 : 0 ≤ i) (h1 : i < xs.length) : ∃ x ∈ xs, atI xs i = some x := by
  have hn : i.toNat < xs.length := by omega
  refine ⟨xs[i.toNat], List.getElem_mem hn, ?_⟩
  unfold atI ixN
  rw [if_pos h0, if_pos h1]
  exact List.getElem?_eq_getElem hn

theorem pickP {P : D → Prop} {xs : List D} {m c : Int} (hm : (xs.length : Int) = m) (h : 0 < m) (hp : ∀ x ∈ xs, P x) : ∃ x, P x ∧ atI xs (c.fmod m) = some x := by
  have b := fmod_bd (c := c) h
  obtain ⟨x, hx, e⟩ := at_ex (xs := xs) b.1 (by rw [hm]; exact b.2)
  exact ⟨x, hp x hx, e⟩
def ShD (n : Nat) (d : D) : Prop := ∃ w : Str, d = sD w ∧ w.length ≤ n
theorem shD_all (n : Nat) : ∀ ws : List Str, (ws.all fun w => decide (w.length ≤ n)) = true → ∀ x ∈ Ss ws, ShD n x := fun ws h x hx => by
  unfold Ss at hx
  obtain ⟨w, hw, rfl⟩ := List.mem_map.mp hx
  exact ⟨w, rfl, of_decide_eq_true (List.all_eq_true.mp h w hw)⟩
theorem cut_le (z : Str) (lo hi : Option Int) : (cutS z lo hi).length ≤ z.length := by
  rw [t_len, t_len]
  unfold cutS
  show (List.take _ (List.drop _ _)).length ≤ _
  simp only [List.length_take, List.length_drop]
  omega
theorem odd_ok (c : Int) (S : List Cell) : ∃ w : Str, w.length ≤ 11 ∧ g_law_odd [.v (.int c)] S = .ok (sD w) S := by
  have d5 : divOk 5 := divOk_s (by decide) (by decide)
  have lo : ((Str.ofString "!\"#$&'()*+-/:;<=>?@ABCDEFGHIJKLMNOPQRSTUVWXYZ[\\]^_`{|}~	").length : Int) = 56 := by decide +kernel
  have lz : ((Str.ofString "!\"#$&'()*+-/:;<=>?@ABCDEFGHIJKLMNOPQRSTUVWXYZ[\\]^_`{|}~	").length ≤ 1000000) = True := eq_true (by decide +kernel)
  have dN : divOk 56 := divOk_s (by decide) (by decide)
  have d3 : divOk 3 := divOk_s (by decide) (by decide)
  have d2 : divOk 2 := divOk_s (by decide) (by decide)
  have d10 : divOk 10 := divOk_s (by decide) (by decide)
  have bA := fmod_bd (c := c.fdiv 5) (m := 56) (by decide)
  obtain ⟨k, _, ek⟩ := at_ex (xs := (Str.ofString "!\"#$&'()*+-/:;<=>?@ABCDEFGHIJKLMNOPQRSTUVWXYZ[\\]^_`{|}~	").cps.toList) (i := (c.fdiv 5).fmod 56) bA.1 (by rw [← t_len, lo]; exact bA.2)
  by_cases k2 : c.fmod 5 < 2
  · refine ⟨⟨#[k]⟩, (show (1 : Nat) ≤ 11 by decide), ?_⟩
    simp only [g_law_odd, den_law_odd, runD, dD, dNil, dCons, dAnd, dOr, dNotT, dAndV, dOrV, dNotV, dIf, dTru, dCmpT, dSeq, dRet, dSet, dSetN, dIfS, dNx, dDrop, dOp, dNeg, dTup, dLst, dC, dK, dVar, okD, okN, frz, dCall, ofF, dAug, dPar, dApp, dChain, dListOf, dSlL, dRev,
  M.bind, M.pure, M.no, M.ne, dName, dUnit, dConsG, dTupG, gOr, gI, gS, gAdd, gSubI, gMul, gDiv, gMod, gPow, gIx, gLen, gAbs, gInt1, gSum, gAll, gAny, gMaxL, gMinL, gTupOf, g2I, gDm, gPart, gTru, gBool, gBoolO, gEq_pair, gEq_ints, gEq_sl1, gEq_sl2, opL, gEq_int, gEq_str, gEq_bl, gEq_non, gNone, gIn, gSign, gCat, gRep, gIsi,
  iLt, iLe, iGt, iGe, My.isNon, truD, tagD, seqD, lstD, rdlD, mutD, putL, tupD, vsD, rng1X, rng2X, enuX, zipX, seqX,
  Option.bind, Option.map, Option.bind_some, Option.map_some,
  List.map_cons, List.map_nil, List.length_cons, List.length_nil, List.nil_append, List.cons_append, List.replicate, List.getElem?_cons_zero, List.getElem?_cons_succ, List.set_cons_zero, List.set_cons_succ, List.append_nil,
  if_true, if_false, ite_true, ite_false, Nat.reduceAdd, Int.reduceToNat, Int.reducePow, Nat.reducePow, Int.reduceMul, Int.reduceAdd, Int.reduceSub, Int.reduceLT, Int.reduceLE, Nat.reduceMul, Int.cast_ofNat_Int, Nat.reduceSub, Nat.reduceLT, Nat.reduceLeDiff, ne_eq, reduceCtorEq, not_false_eq_true, not_true_eq_false, Int.reduceEq, Int.reduceNeg, Bool.false_eq_true, Bool.not_true, Bool.not_false, decide_true, decide_false, true_and, and_true, false_and, and_false, or_true, true_or, or_false, false_or, id_eq, Bool.true_eq_false, decide_eq_true_eq, Bool.not_eq_true', decide_eq_false_iff_not, Bool.not_not, blsD, List.all_cons, List.all_nil, List.any_cons, List.any_nil, Bool.and_self, Bool.and_true, Bool.or_false, dFor, dLc, itL, wipeD, backD, isi_NoneType_bool, isi_NoneType_int, isi_NoneType_str, isi_NoneType_tuple, isi_NoneType_list, isi_NoneType_dict, isi_bool_bool, isi_bool_int, isi_bool_str, isi_bool_tuple, isi_bool_list, isi_bool_dict, isi_int_bool, isi_int_int, isi_int_str, isi_int_tuple, isi_int_list, isi_int_dict, isi_str_bool, isi_str_int, isi_str_str, isi_str_tuple, isi_str_list, isi_str_dict, isi_tuple_bool, isi_tuple_int, isi_tuple_str, isi_tuple_tuple, isi_tuple_list, isi_tuple_dict, isi_list_bool, isi_list_int, isi_list_str, isi_list_tuple, isi_list_list, isi_list_dict, isi_dict_bool, isi_dict_int, isi_dict_str, isi_dict_tuple, isi_dict_list, isi_dict_dict, dSlD, dCatN, dLcA, dLcX, dForA, dForX, gStr1, gIsiS, tagS, dJoinS, dIsStr, strsO, gStrA, dRaiseF, dPut, k2, d5, lo, lz, dN, ek]
  · by_cases k3 : c.fmod 5 = 2
    · have z : ((Str.ofString "abcdefghijk").length ≤ 1000000) = True := eq_true (by decide +kernel)
      refine ⟨cutS (Str.ofString "abcdefghijk") none (some (8 + (c.fdiv 5).fmod 3)), Nat.le_trans (cut_le _ _ _) (by decide +kernel), ?_⟩
      simp only [g_law_odd, den_law_odd, runD, dD, dNil, dCons, dAnd, dOr, dNotT, dAndV, dOrV, dNotV, dIf, dTru, dCmpT, dSeq, dRet, dSet, dSetN, dIfS, dNx, dDrop, dOp, dNeg, dTup, dLst, dC, dK, dVar, okD, okN, frz, dCall, ofF, dAug, dPar, dApp, dChain, dListOf, dSlL, dRev,
  M.bind, M.pure, M.no, M.ne, dName, dUnit, dConsG, dTupG, gOr, gI, gS, gAdd, gSubI, gMul, gDiv, gMod, gPow, gIx, gLen, gAbs, gInt1, gSum, gAll, gAny, gMaxL, gMinL, gTupOf, g2I, gDm, gPart, gTru, gBool, gBoolO, gEq_pair, gEq_ints, gEq_sl1, gEq_sl2, opL, gEq_int, gEq_str, gEq_bl, gEq_non, gNone, gIn, gSign, gCat, gRep, gIsi,
  iLt, iLe, iGt, iGe, My.isNon, truD, tagD, seqD, lstD, rdlD, mutD, putL, tupD, vsD, rng1X, rng2X, enuX, zipX, seqX,
  Option.bind, Option.map, Option.bind_some, Option.map_some,
  List.map_cons, List.map_nil, List.length_cons, List.length_nil, List.nil_append, List.cons_append, List.replicate, List.getElem?_cons_zero, List.getElem?_cons_succ, List.set_cons_zero, List.set_cons_succ, List.append_nil,
  if_true, if_false, ite_true, ite_false, Nat.reduceAdd, Int.reduceToNat, Int.reducePow, Nat.reducePow, Int.reduceMul, Int.reduceAdd, Int.reduceSub, Int.reduceLT, Int.reduceLE, Nat.reduceMul, Int.cast_ofNat_Int, Nat.reduceSub, Nat.reduceLT, Nat.reduceLeDiff, ne_eq, reduceCtorEq, not_false_eq_true, not_true_eq_false, Int.reduceEq, Int.reduceNeg, Bool.false_eq_true, Bool.not_true, Bool.not_false, decide_true, decide_false, true_and, and_true, false_and, and_false, or_true, true_or, or_false, false_or, id_eq, Bool.true_eq_false, decide_eq_true_eq, Bool.not_eq_true', decide_eq_false_iff_not, Bool.not_not, blsD, List.all_cons, List.all_nil, List.any_cons, List.any_nil, Bool.and_self, Bool.and_true, Bool.or_false, dFor, dLc, itL, wipeD, backD, isi_NoneType_bool, isi_NoneType_int, isi_NoneType_str, isi_NoneType_tuple, isi_NoneType_list, isi_NoneType_dict, isi_bool_bool, isi_bool_int, isi_bool_str, isi_bool_tuple, isi_bool_list, isi_bool_dict, isi_int_bool, isi_int_int, isi_int_str, isi_int_tuple, isi_int_list, isi_int_dict, isi_str_bool, isi_str_int, isi_str_str, isi_str_tuple, isi_str_list, isi_str_dict, isi_tuple_bool, isi_tuple_int, isi_tuple_str, isi_tuple_tuple, isi_tuple_list, isi_tuple_dict, isi_list_bool, isi_list_int, isi_list_str, isi_list_tuple, isi_list_list, isi_list_dict, isi_dict_bool, isi_dict_int, isi_dict_str, isi_dict_tuple, isi_dict_list, isi_dict_dict, dSlD, dCatN, dLcA, dLcX, dForA, dForX, gStr1, gIsiS, tagS, dJoinS, dIsStr, strsO, gStrA, dRaiseF, dPut, k2, k3, d5, d3, z, Int.lt_irrefl]
    · by_cases k4 : c.fmod 5 = 3
      · have z : ((Str.ofString "98765").length ≤ 1000000) = True := eq_true (by decide +kernel)
        refine ⟨cutS (Str.ofString "98765") none (some (4 + (c.fdiv 5).fmod 2)), Nat.le_trans (cut_le _ _ _) (by decide +kernel), ?_⟩
        simp only [g_law_odd, den_law_odd, runD, dD, dNil, dCons, dAnd, dOr, dNotT, dAndV, dOrV, dNotV, dIf, dTru, dCmpT, dSeq, dRet, dSet, dSetN, dIfS, dNx, dDrop, dOp, dNeg, dTup, dLst, dC, dK, dVar, okD, okN, frz, dCall, ofF, dAug, dPar, dApp, dChain, dListOf, dSlL, dRev,
  M.bind, M.pure, M.no, M.ne, dName, dUnit, dConsG, dTupG, gOr, gI, gS, gAdd, gSubI, gMul, gDiv, gMod, gPow, gIx, gLen, gAbs, gInt1, gSum, gAll, gAny, gMaxL, gMinL, gTupOf, g2I, gDm, gPart, gTru, gBool, gBoolO, gEq_pair, gEq_ints, gEq_sl1, gEq_sl2, opL, gEq_int, gEq_str, gEq_bl, gEq_non, gNone, gIn, gSign, gCat, gRep, gIsi,
  iLt, iLe, iGt, iGe, My.isNon, truD, tagD, seqD, lstD, rdlD, mutD, putL, tupD, vsD, rng1X, rng2X, enuX, zipX, seqX,
  Option.bind, Option.map, Option.bind_some, Option.map_some,
  List.map_cons, List.map_nil, List.length_cons, List.length_nil, List.nil_append, List.cons_append, List.replicate, List.getElem?_cons_zero, List.getElem?_cons_succ, List.set_cons_zero, List.set_cons_succ, List.append_nil,
  if_true, if_false, ite_true, ite_false, Nat.reduceAdd, Int.reduceToNat, Int.reducePow, Nat.reducePow, Int.reduceMul, Int.reduceAdd, Int.reduceSub, Int.reduceLT, Int.reduceLE, Nat.reduceMul, Int.cast_ofNat_Int, Nat.reduceSub, Nat.reduceLT, Nat.reduceLeDiff, ne_eq, reduceCtorEq, not_false_eq_true, not_true_eq_false, Int.reduceEq, Int.reduceNeg, Bool.false_eq_true, Bool.not_true, Bool.not_false, decide_true, decide_false, true_and, and_true, false_and, and_false, or_true, true_or, or_false, false_or, id_eq, Bool.true_eq_false, decide_eq_true_eq, Bool.not_eq_true', decide_eq_false_iff_not, Bool.not_not, blsD, List.all_cons, List.all_nil, List.any_cons, List.any_nil, Bool.and_self, Bool.and_true, Bool.or_false, dFor, dLc, itL, wipeD, backD, isi_NoneType_bool, isi_NoneType_int, isi_NoneType_str, isi_NoneType_tuple, isi_NoneType_list, isi_NoneType_dict, isi_bool_bool, isi_bool_int, isi_bool_str, isi_bool_tuple, isi_bool_list, isi_bool_dict, isi_int_bool, isi_int_int, isi_int_str, isi_int_tuple, isi_int_list, isi_int_dict, isi_str_bool, isi_str_int, isi_str_str, isi_str_tuple, isi_str_list, isi_str_dict, isi_tuple_bool, isi_tuple_int, isi_tuple_str, isi_tuple_tuple, isi_tuple_list, isi_tuple_dict, isi_list_bool, isi_list_int, isi_list_str, isi_list_tuple, isi_list_list, isi_list_dict, isi_dict_bool, isi_dict_int, isi_dict_str, isi_dict_tuple, isi_dict_list, isi_dict_dict, dSlD, dCatN, dLcA, dLcX, dForA, dForX, gStr1, gIsiS, tagS, dJoinS, dIsStr, strsO, gStrA, dRaiseF, dPut, k2, k3, k4, d5, d2, z]
      · obtain ⟨_, ⟨w, rfl, hw⟩, e⟩ := pickP (c := c.fdiv 5) (m := 10) (by decide) (by decide) (shD_all 11 [Str.ofString "00", Str.ofString "01", Str.ofString "007", Str.ofString "0", Str.ofString "0a", Str.ofString "a0", Str.ofString "..", Str.ofString ",.", Str.ofString "0 0", Str.ofString "0000"] (by decide +kernel))
        refine ⟨w, hw, ?_⟩
        simp only [Ss, List.map_cons, List.map_nil] at e
        simp only [g_law_odd, den_law_odd, runD, dD, dNil, dCons, dAnd, dOr, dNotT, dAndV, dOrV, dNotV, dIf, dTru, dCmpT, dSeq, dRet, dSet, dSetN, dIfS, dNx, dDrop, dOp, dNeg, dTup, dLst, dC, dK, dVar, okD, okN, frz, dCall, ofF, dAug, dPar, dApp, dChain, dListOf, dSlL, dRev,
  M.bind, M.pure, M.no, M.ne, dName, dUnit, dConsG, dTupG, gOr, gI, gS, gAdd, gSubI, gMul, gDiv, gMod, gPow, gIx, gLen, gAbs, gInt1, gSum, gAll, gAny, gMaxL, gMinL, gTupOf, g2I, gDm, gPart, gTru, gBool, gBoolO, gEq_pair, gEq_ints, gEq_sl1, gEq_sl2, opL, gEq_int, gEq_str, gEq_bl, gEq_non, gNone, gIn, gSign, gCat, gRep, gIsi,
  iLt, iLe, iGt, iGe, My.isNon, truD, tagD, seqD, lstD, rdlD, mutD, putL, tupD, vsD, rng1X, rng2X, enuX, zipX, seqX,
  Option.bind, Option.map, Option.bind_some, Option.map_some,
  List.map_cons, List.map_nil, List.length_cons, List.length_nil, List.nil_append, List.cons_append, List.replicate, List.getElem?_cons_zero, List.getElem?_cons_succ, List.set_cons_zero, List.set_cons_succ, List.append_nil,
  if_true, if_false, ite_true, ite_false, Nat.reduceAdd, Int.reduceToNat, Int.reducePow, Nat.reducePow, Int.reduceMul, Int.reduceAdd, Int.reduceSub, Int.reduceLT, Int.reduceLE, Nat.reduceMul, Int.cast_ofNat_Int, Nat.reduceSub, Nat.reduceLT, Nat.reduceLeDiff, ne_eq, reduceCtorEq, not_false_eq_true, not_true_eq_false, Int.reduceEq, Int.reduceNeg, Bool.false_eq_true, Bool.not_true, Bool.not_false, decide_true, decide_false, true_and, and_true, false_and, and_false, or_true, true_or, or_false, false_or, id_eq, Bool.true_eq_false, decide_eq_true_eq, Bool.not_eq_true', decide_eq_false_iff_not, Bool.not_not, blsD, List.all_cons, List.all_nil, List.any_cons, List.any_nil, Bool.and_self, Bool.and_true, Bool.or_false, dFor, dLc, itL, wipeD, backD, isi_NoneType_bool, isi_NoneType_int, isi_NoneType_str, isi_NoneType_tuple, isi_NoneType_list, isi_NoneType_dict, isi_bool_bool, isi_bool_int, isi_bool_str, isi_bool_tuple, isi_bool_list, isi_bool_dict, isi_int_bool, isi_int_int, isi_int_str, isi_int_tuple, isi_int_list, isi_int_dict, isi_str_bool, isi_str_int, isi_str_str, isi_str_tuple, isi_str_list, isi_str_dict, isi_tuple_bool, isi_tuple_int, isi_tuple_str, isi_tuple_tuple, isi_tuple_list, isi_tuple_dict, isi_list_bool, isi_list_int, isi_list_str, isi_list_tuple, isi_list_list, isi_list_dict, isi_dict_bool, isi_dict_int, isi_dict_str, isi_dict_tuple, isi_dict_list, isi_dict_dict, dSlD, dCatN, dLcA, dLcX, dForA, dForX, gStr1, gIsiS, tagS, dJoinS, dIsStr, strsO, gStrA, dRaiseF, dPut, k2, k3, k4, d5, d10, e]
theorem ok_law_odd (T : Tx K mg Env.HallError Env.BadSign Env.BadText Env.BadName Env.BadNumber Env.BadRing Env.BadLoan Env.TooMany Env.NoDoor Env.BadChange Env.BadKept) : Okf P w K mg base 1 "_law_odd" ["_law_cell"] g_law_odd := (raw_law_odd T ).by eq_law_odd
abbrev slaw_runs : Stmt := (top 30)
abbrev Nlaw_runs : List Str := ["_law_text_here", "_law_found", "_law_last", "_law_at", "_law_mark", "_law_sort"]
theorem sclaw_runs : FnScope Nlaw_runs ["_law_text_here"] (defScope slaw_runs) := ⟨rfl, rfl, rfl, by decide +kernel, rfl, by decide +kernel, by decide +kernel⟩
noncomputable def flaw_runs1b : M Fl :=
    (dSeq (dSet 5 (dD (dIf (dCmpT (gOr (gIn false) (gSign false)) (dVar 4) (dC (.str " \n"))) (dC (.str "blank")) (dC (.str "other")))))
    (dSeq (dIfS (dCmpT (gOr (gIn false) (gSign false)) (dVar 4) (dC (.str "abcdefghijklmnopqrstuvwxyz"))) (dSet 5 (dD (dC (.str "letter")))) dNx)
    (dSeq (dIfS (dCmpT (gOr (gIn false) (gSign false)) (dVar 4) (dC (.str "0123456789"))) (dSet 5 (dD (dC (.str "figure")))) dNx)
    (dSeq (dIfS (dAnd (dCmpT (gEq false) (dVar 5) (dVar 2)) (dCmpT (gOr (gIn false) (gSign false)) (dVar 5) (okD (dTup (dCons (dD (dC (.str "letter"))) (dCons (dD (dC (.str "figure"))) dNil)))))) (dPut (dTup (dCons (dOp gIx (okD (dOp gIx (dVar 1) (okD (dNeg (dC (.int 1)))))) (dC (.int 0))) (dCons (dOp gAdd (okD (dOp gIx (okD (dOp gIx (dVar 1) (okD (dNeg (dC (.int 1)))))) (dC (.int 1)))) (dVar 4)) dNil))) (dVar 1) (dNeg (dC (.int 1)))) (dIfS (dCmpT (gEq true) (dVar 5) (dC (.str "blank"))) (dDrop (okD (dApp (dVar 1) (dTup (dCons (dD (dVar 3)) (dCons (dD (dVar 4)) dNil)))))) dNx))
    (dSet 2 (dD (dVar 5)))))))
noncomputable def den_law_runs : M Fl :=
    (dSeq (dSetN 1 (dLst dNil))
    (dSeq (dSet 2 (dD (dC (.str "blank"))))
    (dSeq (dFor (M.bind (dCons (dD (dVar 0)) dNil) enSX) (dTupG 2 (dConsG (dName 3) (dConsG (dName 4) dUnit))) flaw_runs1b)
    (dRet (dD (dVar 1))))))
theorem raw_law_runs (T : Tx K mg Env.HallError Env.BadSign Env.BadText Env.BadName Env.BadNumber Env.BadRing Env.BadLoan Env.TooMany Env.NoDoor Env.BadChange Env.BadKept) : Okf P w K mg base 1 "_law_runs" ["_law_text_here"] (runD 6 1 den_law_runs) := by
  have sc := sclaw_runs
  exact ok_has (N := Nlaw_runs) T.d_law_runs sc rfl (by decide) fun f cdv A outer s H E hr => ⟨_, ((bd_cons (sd_setN (i := 1) sc.nd rfl (by first | exact Or.inl rfl | exact Or.inr rfl) (en_lst ad_nil))
    (bd_cons (sd_set (i := 2) sc.nd rfl (by first | exact Or.inl rfl | exact Or.inr rfl) (ED.d ed_str))
    (bd_cons (sd_for (passes_of rfl) rfl (id_enS (by rfl) T.n_enumerate (ad_cons (ED.d (ed_var 0)) ad_nil)) (gd_tup rfl (gds_cons (gd_name (i := 3) sc.nd rfl (by first | exact Or.inl rfl | exact Or.inr rfl)) (gds_cons (gd_name (i := 4) sc.nd rfl (by first | exact Or.inl rfl | exact Or.inr rfl)) gds_nil))) (bd_cons (sd_set (i := 5) sc.nd rfl (by first | exact Or.inl rfl | exact Or.inr rfl) (ED.d (ed_if (td_cmp cIn (ed_var 4) ed_str rfl) ed_str ed_str)))
    (bd_cons (sd_if (td_cmp cIn (ed_var 4) ed_str rfl) (bd_one (sd_set (i := 5) sc.nd rfl (by first | exact Or.inl rfl | exact Or.inr rfl) (ED.d ed_str))) bd_nil)
    (bd_cons (sd_if (td_cmp cIn (ed_var 4) ed_str rfl) (bd_one (sd_set (i := 5) sc.nd rfl (by first | exact Or.inl rfl | exact Or.inr rfl) (ED.d ed_str))) bd_nil)
    (bd_cons (sd_if (td_w (wd_and (td_cmp (cEq hr.units) (ed_var 5) (ed_var 2) (nomark _)) (wd_and1 (td_cmp cIn (ed_var 5) (DD.e (dd_tup (ad_cons (ED.d ed_str) (ad_cons (ED.d ed_str) ad_nil)))) rfl)))) (bd_one (sd_put (dd_tup (ad_cons (dd_ix (DD.e (dd_ix (ed_var 1) (DD.e (dd_neg ed_int)) (fun _ _ => rfl))) ed_int (fun _ _ => rfl)) (ad_cons (dd_add (DD.e (dd_ix (DD.e (dd_ix (ed_var 1) (DD.e (dd_neg ed_int)) (fun _ _ => rfl))) ed_int (fun _ _ => rfl))) (ed_var 4)) ad_nil))) (ed_var 1) (dd_neg ed_int))) (bd_one (sd_if (td_cmp (cNe hr.units) (ed_var 5) ed_str (nomark _)) (bd_one (sd_expr (DD.e (dd_append (ed_var 1) (dd_tup (ad_cons (ED.d (ed_var 3)) (ad_cons (ED.d (ed_var 4)) ad_nil))))))) bd_nil)))
    (bd_one (sd_set (i := 2) sc.nd rfl (by first | exact Or.inl rfl | exact Or.inr rfl) (ED.d (ed_var 5)))))))))
    (bd_one (sd_ret (ED.d (ed_var 1))))))) : BD _ _ _ _ den_law_runs)⟩
noncomputable def g_law_runs : G := runD 6 1 den_law_runs
theorem eq_law_runs : ∀ ds S, g_law_runs ds S ≠ .no → runD 6 1 den_law_runs ds S = g_law_runs ds S := fun _ _ _ => rfl

theorem bk_mem (c : Nat) : c ∈ (Str.ofString " \n").cps.toList ↔ isBl c := by
  have e : (Str.ofString " \n").cps.toList = [32, 10] := by decide +kernel
  rw [e]
  unfold isBl
  simp
theorem ix_last (xs : List D) (x : D) : ixN (xs ++ [x]).length (-1) = some xs.length := by
  unfold ixN
  rw [if_neg (by decide), if_pos (by simp; omega)]
  congr 1
  simp
  omega
theorem set_last (xs : List D) (x y : D) : (xs ++ [x]).set xs.length y = xs ++ [y] := by simp
def rD (p : Int × Str) : D := .tup [.v (.int p.1), sD p.2]
def sB : Str := Str.ofString "blank"
def sO : Str := Str.ofString "other"
def sL : Str := Str.ofString "letter"
def sF : Str := Str.ofString "figure"
theorem in_L : inV (V.str (Str.ofString "letter")) [V.str (Str.ofString "letter"), V.str (Str.ofString "figure")] = true := by decide +kernel
theorem in_F : inV (V.str (Str.ofString "figure")) [V.str (Str.ofString "letter"), V.str (Str.ofString "figure")] = true := by decide +kernel
theorem in_O : inV (V.str (Str.ofString "other")) [V.str (Str.ofString "letter"), V.str (Str.ofString "figure")] = false := by decide +kernel
theorem in_B : inV (V.str (Str.ofString "blank")) [V.str (Str.ofString "letter"), V.str (Str.ofString "figure")] = false := by decide +kernel
theorem ne_LB : (Str.ofString "letter" = Str.ofString "blank") = False := eq_false (by decide +kernel)
theorem ne_FB : (Str.ofString "figure" = Str.ofString "blank") = False := eq_false (by decide +kernel)
theorem ne_OB : (Str.ofString "other" = Str.ofString "blank") = False := eq_false (by decide +kernel)
abbrev rst (t : Str) (S : List Cell) (acc : List D) (last : Str) (x3 x4 x5 : Slot) : Stt := ⟨[.d (sD t), .own (.lst acc), .d (sD last), x3, x4, x5], S⟩
theorem rs_bl (t : Str) (S : List Cell) (acc : List D) (last : Str) (a : Int) (c : Nat) (x5 : Slot) (h : isBl c) : flaw_runs1b (rst t S acc last (.d (.v (.int a))) (.d (.v (.str ⟨#[c]⟩))) x5) = .ok .nx (rst t S acc sB (.d (.v (.int a))) (.d (.v (.str ⟨#[c]⟩))) (.d (sD sB))) := by
  have mB := (propext (bk_mem c)).trans (eq_true h)
  have mL := (propext (let_mem c)).trans (eq_false (by unfold isBl at h; unfold isLet; omega))
  have mF := (propext (fig_mem c)).trans (eq_false (by unfold isBl at h; unfold isFig; omega))
  by_cases e : Str.ofString "blank" = last
  · have e' := eq_true e
    simp only [rst, sB, flaw_runs1b, runD, dD, dNil, dCons, dAnd, dOr, dNotT, dAndV, dOrV, dNotV, dIf, dTru, dCmpT, dSeq, dRet, dSet, dSetN, dIfS, dNx, dDrop, dOp, dNeg, dTup, dLst, dC, dK, dVar, okD, okN, frz, dCall, ofF, dAug, dPar, dApp, dChain, dListOf, dSlL, dRev,
  M.bind, M.pure, M.no, M.ne, dName, dUnit, dConsG, dTupG, gOr, gI, gS, gAdd, gSubI, gMul, gDiv, gMod, gPow, gIx, gLen, gAbs, gInt1, gSum, gAll, gAny, gMaxL, gMinL, gTupOf, g2I, gDm, gPart, gTru, gBool, gBoolO, gEq_pair, gEq_ints, gEq_sl1, gEq_sl2, opL, gEq_int, gEq_str, gEq_bl, gEq_non, gNone, gIn, gSign, gCat, gRep, gIsi,
  iLt, iLe, iGt, iGe, My.isNon, truD, tagD, seqD, lstD, rdlD, mutD, putL, tupD, vsD, rng1X, rng2X, enuX, zipX, seqX,
  Option.bind, Option.map, Option.bind_some, Option.map_some,
  List.map_cons, List.map_nil, List.length_cons, List.length_nil, List.nil_append, List.cons_append, List.replicate, List.getElem?_cons_zero, List.getElem?_cons_succ, List.set_cons_zero, List.set_cons_succ, List.append_nil,
  if_true, if_false, ite_true, ite_false, Nat.reduceAdd, Int.reduceToNat, Int.reducePow, Nat.reducePow, Int.reduceMul, Int.reduceAdd, Int.reduceSub, Int.reduceLT, Int.reduceLE, Nat.reduceMul, Int.cast_ofNat_Int, Nat.reduceSub, Nat.reduceLT, Nat.reduceLeDiff, ne_eq, reduceCtorEq, not_false_eq_true, not_true_eq_false, Int.reduceEq, Int.reduceNeg, Bool.false_eq_true, Bool.not_true, Bool.not_false, decide_true, decide_false, true_and, and_true, false_and, and_false, or_true, true_or, or_false, false_or, id_eq, Bool.true_eq_false, decide_eq_true_eq, Bool.not_eq_true', decide_eq_false_iff_not, Bool.not_not, blsD, List.all_cons, List.all_nil, List.any_cons, List.any_nil, Bool.and_self, Bool.and_true, Bool.or_false, dFor, dLc, itL, wipeD, backD, isi_NoneType_bool, isi_NoneType_int, isi_NoneType_str, isi_NoneType_tuple, isi_NoneType_list, isi_NoneType_dict, isi_bool_bool, isi_bool_int, isi_bool_str, isi_bool_tuple, isi_bool_list, isi_bool_dict, isi_int_bool, isi_int_int, isi_int_str, isi_int_tuple, isi_int_list, isi_int_dict, isi_str_bool, isi_str_int, isi_str_str, isi_str_tuple, isi_str_list, isi_str_dict, isi_tuple_bool, isi_tuple_int, isi_tuple_str, isi_tuple_tuple, isi_tuple_list, isi_tuple_dict, isi_list_bool, isi_list_int, isi_list_str, isi_list_tuple, isi_list_list, isi_list_dict, isi_dict_bool, isi_dict_int, isi_dict_str, isi_dict_tuple, isi_dict_list, isi_dict_dict, dSlD, dCatN, dLcA, dLcX, dForA, dForX, gStr1, gIsiS, tagS, dJoinS, dIsStr, strsO, gStrA, dRaiseF, dPut, flatV, mB, mL, mF, e', in_B]
  · have e' := eq_false e
    simp only [rst, sB, flaw_runs1b, runD, dD, dNil, dCons, dAnd, dOr, dNotT, dAndV, dOrV, dNotV, dIf, dTru, dCmpT, dSeq, dRet, dSet, dSetN, dIfS, dNx, dDrop, dOp, dNeg, dTup, dLst, dC, dK, dVar, okD, okN, frz, dCall, ofF, dAug, dPar, dApp, dChain, dListOf, dSlL, dRev,
  M.bind, M.pure, M.no, M.ne, dName, dUnit, dConsG, dTupG, gOr, gI, gS, gAdd, gSubI, gMul, gDiv, gMod, gPow, gIx, gLen, gAbs, gInt1, gSum, gAll, gAny, gMaxL, gMinL, gTupOf, g2I, gDm, gPart, gTru, gBool, gBoolO, gEq_pair, gEq_ints, gEq_sl1, gEq_sl2, opL, gEq_int, gEq_str, gEq_bl, gEq_non, gNone, gIn, gSign, gCat, gRep, gIsi,
  iLt, iLe, iGt, iGe, My.isNon, truD, tagD, seqD, lstD, rdlD, mutD, putL, tupD, vsD, rng1X, rng2X, enuX, zipX, seqX,
  Option.bind, Option.map, Option.bind_some, Option.map_some,
  List.map_cons, List.map_nil, List.length_cons, List.length_nil, List.nil_append, List.cons_append, List.replicate, List.getElem?_cons_zero, List.getElem?_cons_succ, List.set_cons_zero, List.set_cons_succ, List.append_nil,
  if_true, if_false, ite_true, ite_false, Nat.reduceAdd, Int.reduceToNat, Int.reducePow, Nat.reducePow, Int.reduceMul, Int.reduceAdd, Int.reduceSub, Int.reduceLT, Int.reduceLE, Nat.reduceMul, Int.cast_ofNat_Int, Nat.reduceSub, Nat.reduceLT, Nat.reduceLeDiff, ne_eq, reduceCtorEq, not_false_eq_true, not_true_eq_false, Int.reduceEq, Int.reduceNeg, Bool.false_eq_true, Bool.not_true, Bool.not_false, decide_true, decide_false, true_and, and_true, false_and, and_false, or_true, true_or, or_false, false_or, id_eq, Bool.true_eq_false, decide_eq_true_eq, Bool.not_eq_true', decide_eq_false_iff_not, Bool.not_not, blsD, List.all_cons, List.all_nil, List.any_cons, List.any_nil, Bool.and_self, Bool.and_true, Bool.or_false, dFor, dLc, itL, wipeD, backD, isi_NoneType_bool, isi_NoneType_int, isi_NoneType_str, isi_NoneType_tuple, isi_NoneType_list, isi_NoneType_dict, isi_bool_bool, isi_bool_int, isi_bool_str, isi_bool_tuple, isi_bool_list, isi_bool_dict, isi_int_bool, isi_int_int, isi_int_str, isi_int_tuple, isi_int_list, isi_int_dict, isi_str_bool, isi_str_int, isi_str_str, isi_str_tuple, isi_str_list, isi_str_dict, isi_tuple_bool, isi_tuple_int, isi_tuple_str, isi_tuple_tuple, isi_tuple_list, isi_tuple_dict, isi_list_bool, isi_list_int, isi_list_str, isi_list_tuple, isi_list_list, isi_list_dict, isi_dict_bool, isi_dict_int, isi_dict_str, isi_dict_tuple, isi_dict_list, isi_dict_dict, dSlD, dCatN, dLcA, dLcX, dForA, dForX, gStr1, gIsiS, tagS, dJoinS, dIsStr, strsO, gStrA, dRaiseF, dPut, flatV, mB, mL, mF, e', in_B]
theorem rs_one (t : Str) (S : List Cell) (acc : List D) (last : Str) (a : Int) (c : Nat) (x5 : Slot) (h : ¬ isBl c) (h1 : ¬ isLet c) (h2 : ¬ isFig c) (hz : acc.length < 1000000) : flaw_runs1b (rst t S acc last (.d (.v (.int a))) (.d (.v (.str ⟨#[c]⟩))) x5) = .ok .nx (rst t S (acc ++ [rD (a, ⟨#[c]⟩)]) sO (.d (.v (.int a))) (.d (.v (.str ⟨#[c]⟩))) (.d (sD sO))) := by
  have mB := (propext (bk_mem c)).trans (eq_false h)
  have mL := (propext (let_mem c)).trans (eq_false h1)
  have mF := (propext (fig_mem c)).trans (eq_false h2)
  by_cases e : Str.ofString "other" = last
  · have e' := eq_true e
    simp only [rst, sO, rD, flaw_runs1b, runD, dD, dNil, dCons, dAnd, dOr, dNotT, dAndV, dOrV, dNotV, dIf, dTru, dCmpT, dSeq, dRet, dSet, dSetN, dIfS, dNx, dDrop, dOp, dNeg, dTup, dLst, dC, dK, dVar, okD, okN, frz, dCall, ofF, dAug, dPar, dApp, dChain, dListOf, dSlL, dRev,
  M.bind, M.pure, M.no, M.ne, dName, dUnit, dConsG, dTupG, gOr, gI, gS, gAdd, gSubI, gMul, gDiv, gMod, gPow, gIx, gLen, gAbs, gInt1, gSum, gAll, gAny, gMaxL, gMinL, gTupOf, g2I, gDm, gPart, gTru, gBool, gBoolO, gEq_pair, gEq_ints, gEq_sl1, gEq_sl2, opL, gEq_int, gEq_str, gEq_bl, gEq_non, gNone, gIn, gSign, gCat, gRep, gIsi,
  iLt, iLe, iGt, iGe, My.isNon, truD, tagD, seqD, lstD, rdlD, mutD, putL, tupD, vsD, rng1X, rng2X, enuX, zipX, seqX,
  Option.bind, Option.map, Option.bind_some, Option.map_some,
  List.map_cons, List.map_nil, List.length_cons, List.length_nil, List.nil_append, List.cons_append, List.replicate, List.getElem?_cons_zero, List.getElem?_cons_succ, List.set_cons_zero, List.set_cons_succ, List.append_nil,
  if_true, if_false, ite_true, ite_false, Nat.reduceAdd, Int.reduceToNat, Int.reducePow, Nat.reducePow, Int.reduceMul, Int.reduceAdd, Int.reduceSub, Int.reduceLT, Int.reduceLE, Nat.reduceMul, Int.cast_ofNat_Int, Nat.reduceSub, Nat.reduceLT, Nat.reduceLeDiff, ne_eq, reduceCtorEq, not_false_eq_true, not_true_eq_false, Int.reduceEq, Int.reduceNeg, Bool.false_eq_true, Bool.not_true, Bool.not_false, decide_true, decide_false, true_and, and_true, false_and, and_false, or_true, true_or, or_false, false_or, id_eq, Bool.true_eq_false, decide_eq_true_eq, Bool.not_eq_true', decide_eq_false_iff_not, Bool.not_not, blsD, List.all_cons, List.all_nil, List.any_cons, List.any_nil, Bool.and_self, Bool.and_true, Bool.or_false, dFor, dLc, itL, wipeD, backD, isi_NoneType_bool, isi_NoneType_int, isi_NoneType_str, isi_NoneType_tuple, isi_NoneType_list, isi_NoneType_dict, isi_bool_bool, isi_bool_int, isi_bool_str, isi_bool_tuple, isi_bool_list, isi_bool_dict, isi_int_bool, isi_int_int, isi_int_str, isi_int_tuple, isi_int_list, isi_int_dict, isi_str_bool, isi_str_int, isi_str_str, isi_str_tuple, isi_str_list, isi_str_dict, isi_tuple_bool, isi_tuple_int, isi_tuple_str, isi_tuple_tuple, isi_tuple_list, isi_tuple_dict, isi_list_bool, isi_list_int, isi_list_str, isi_list_tuple, isi_list_list, isi_list_dict, isi_dict_bool, isi_dict_int, isi_dict_str, isi_dict_tuple, isi_dict_list, isi_dict_dict, dSlD, dCatN, dLcA, dLcX, dForA, dForX, gStr1, gIsiS, tagS, dJoinS, dIsStr, strsO, gStrA, dRaiseF, dPut, flatV, mB, mL, mF, e', in_O, ne_OB, hz]
  · have e' := eq_false e
    simp only [rst, sO, rD, flaw_runs1b, runD, dD, dNil, dCons, dAnd, dOr, dNotT, dAndV, dOrV, dNotV, dIf, dTru, dCmpT, dSeq, dRet, dSet, dSetN, dIfS, dNx, dDrop, dOp, dNeg, dTup, dLst, dC, dK, dVar, okD, okN, frz, dCall, ofF, dAug, dPar, dApp, dChain, dListOf, dSlL, dRev,
  M.bind, M.pure, M.no, M.ne, dName, dUnit, dConsG, dTupG, gOr, gI, gS, gAdd, gSubI, gMul, gDiv, gMod, gPow, gIx, gLen, gAbs, gInt1, gSum, gAll, gAny, gMaxL, gMinL, gTupOf, g2I, gDm, gPart, gTru, gBool, gBoolO, gEq_pair, gEq_ints, gEq_sl1, gEq_sl2, opL, gEq_int, gEq_str, gEq_bl, gEq_non, gNone, gIn, gSign, gCat, gRep, gIsi,
  iLt, iLe, iGt, iGe, My.isNon, truD, tagD, seqD, lstD, rdlD, mutD, putL, tupD, vsD, rng1X, rng2X, enuX, zipX, seqX,
  Option.bind, Option.map, Option.bind_some, Option.map_some,
  List.map_cons, List.map_nil, List.length_cons, List.length_nil, List.nil_append, List.cons_append, List.replicate, List.getElem?_cons_zero, List.getElem?_cons_succ, List.set_cons_zero, List.set_cons_succ, List.append_nil,
  if_true, if_false, ite_true, ite_false, Nat.reduceAdd, Int.reduceToNat, Int.reducePow, Nat.reducePow, Int.reduceMul, Int.reduceAdd, Int.reduceSub, Int.reduceLT, Int.reduceLE, Nat.reduceMul, Int.cast_ofNat_Int, Nat.reduceSub, Nat.reduceLT, Nat.reduceLeDiff, ne_eq, reduceCtorEq, not_false_eq_true, not_true_eq_false, Int.reduceEq, Int.reduceNeg, Bool.false_eq_true, Bool.not_true, Bool.not_false, decide_true, decide_false, true_and, and_true, false_and, and_false, or_true, true_or, or_false, false_or, id_eq, Bool.true_eq_false, decide_eq_true_eq, Bool.not_eq_true', decide_eq_false_iff_not, Bool.not_not, blsD, List.all_cons, List.all_nil, List.any_cons, List.any_nil, Bool.and_self, Bool.and_true, Bool.or_false, dFor, dLc, itL, wipeD, backD, isi_NoneType_bool, isi_NoneType_int, isi_NoneType_str, isi_NoneType_tuple, isi_NoneType_list, isi_NoneType_dict, isi_bool_bool, isi_bool_int, isi_bool_str, isi_bool_tuple, isi_bool_list, isi_bool_dict, isi_int_bool, isi_int_int, isi_int_str, isi_int_tuple, isi_int_list, isi_int_dict, isi_str_bool, isi_str_int, isi_str_str, isi_str_tuple, isi_str_list, isi_str_dict, isi_tuple_bool, isi_tuple_int, isi_tuple_str, isi_tuple_tuple, isi_tuple_list, isi_tuple_dict, isi_list_bool, isi_list_int, isi_list_str, isi_list_tuple, isi_list_list, isi_list_dict, isi_dict_bool, isi_dict_int, isi_dict_str, isi_dict_tuple, isi_dict_list, isi_dict_dict, dSlD, dCatN, dLcA, dLcX, dForA, dForX, gStr1, gIsiS, tagS, dJoinS, dIsStr, strsO, gStrA, dRaiseF, dPut, flatV, mB, mL, mF, e', in_O, ne_OB, hz]
theorem rs_let (t : Str) (S : List Cell) (acc : List D) (last : Str) (a : Int) (c : Nat) (x5 : Slot) (h : isLet c) (hl : sL ≠ last) (hz : acc.length < 1000000) : flaw_runs1b (rst t S acc last (.d (.v (.int a))) (.d (.v (.str ⟨#[c]⟩))) x5) = .ok .nx (rst t S (acc ++ [rD (a, ⟨#[c]⟩)]) sL (.d (.v (.int a))) (.d (.v (.str ⟨#[c]⟩))) (.d (sD sL))) := by
  have mB := (propext (bk_mem c)).trans (eq_false (by unfold isLet at h; unfold isBl; omega))
  have mL := (propext (let_mem c)).trans (eq_true h)
  have mF := (propext (fig_mem c)).trans (eq_false (by unfold isLet at h; unfold isFig; omega))
  have e' := eq_false hl
  unfold sL at e'
  simp only [rst, sL, rD, flaw_runs1b, runD, dD, dNil, dCons, dAnd, dOr, dNotT, dAndV, dOrV, dNotV, dIf, dTru, dCmpT, dSeq, dRet, dSet, dSetN, dIfS, dNx, dDrop, dOp, dNeg, dTup, dLst, dC, dK, dVar, okD, okN, frz, dCall, ofF, dAug, dPar, dApp, dChain, dListOf, dSlL, dRev,
  M.bind, M.pure, M.no, M.ne, dName, dUnit, dConsG, dTupG, gOr, gI, gS, gAdd, gSubI, gMul, gDiv, gMod, gPow, gIx, gLen, gAbs, gInt1, gSum, gAll, gAny, gMaxL, gMinL, gTupOf, g2I, gDm, gPart, gTru, gBool, gBoolO, gEq_pair, gEq_ints, gEq_sl1, gEq_sl2, opL, gEq_int, gEq_str, gEq_bl, gEq_non, gNone, gIn, gSign, gCat, gRep, gIsi,
  iLt, iLe, iGt, iGe, My.isNon, truD, tagD, seqD, lstD, rdlD, mutD, putL, tupD, vsD, rng1X, rng2X, enuX, zipX, seqX,
  Option.bind, Option.map, Option.bind_some, Option.map_some,
  List.map_cons, List.map_nil, List.length_cons, List.length_nil, List.nil_append, List.cons_append, List.replicate, List.getElem?_cons_zero, List.getElem?_cons_succ, List.set_cons_zero, List.set_cons_succ, List.append_nil,
  if_true, if_false, ite_true, ite_false, Nat.reduceAdd, Int.reduceToNat, Int.reducePow, Nat.reducePow, Int.reduceMul, Int.reduceAdd, Int.reduceSub, Int.reduceLT, Int.reduceLE, Nat.reduceMul, Int.cast_ofNat_Int, Nat.reduceSub, Nat.reduceLT, Nat.reduceLeDiff, ne_eq, reduceCtorEq, not_false_eq_true, not_true_eq_false, Int.reduceEq, Int.reduceNeg, Bool.false_eq_true, Bool.not_true, Bool.not_false, decide_true, decide_false, true_and, and_true, false_and, and_false, or_true, true_or, or_false, false_or, id_eq, Bool.true_eq_false, decide_eq_true_eq, Bool.not_eq_true', decide_eq_false_iff_not, Bool.not_not, blsD, List.all_cons, List.all_nil, List.any_cons, List.any_nil, Bool.and_self, Bool.and_true, Bool.or_false, dFor, dLc, itL, wipeD, backD, isi_NoneType_bool, isi_NoneType_int, isi_NoneType_str, isi_NoneType_tuple, isi_NoneType_list, isi_NoneType_dict, isi_bool_bool, isi_bool_int, isi_bool_str, isi_bool_tuple, isi_bool_list, isi_bool_dict, isi_int_bool, isi_int_int, isi_int_str, isi_int_tuple, isi_int_list, isi_int_dict, isi_str_bool, isi_str_int, isi_str_str, isi_str_tuple, isi_str_list, isi_str_dict, isi_tuple_bool, isi_tuple_int, isi_tuple_str, isi_tuple_tuple, isi_tuple_list, isi_tuple_dict, isi_list_bool, isi_list_int, isi_list_str, isi_list_tuple, isi_list_list, isi_list_dict, isi_dict_bool, isi_dict_int, isi_dict_str, isi_dict_tuple, isi_dict_list, isi_dict_dict, dSlD, dCatN, dLcA, dLcX, dForA, dForX, gStr1, gIsiS, tagS, dJoinS, dIsStr, strsO, gStrA, dRaiseF, dPut, flatV, mB, mL, mF, e', in_L, ne_LB, hz]
theorem rs_fig (t : Str) (S : List Cell) (acc : List D) (last : Str) (a : Int) (c : Nat) (x5 : Slot) (h : isFig c) (hl : sF ≠ last) (hz : acc.length < 1000000) : flaw_runs1b (rst t S acc last (.d (.v (.int a))) (.d (.v (.str ⟨#[c]⟩))) x5) = .ok .nx (rst t S (acc ++ [rD (a, ⟨#[c]⟩)]) sF (.d (.v (.int a))) (.d (.v (.str ⟨#[c]⟩))) (.d (sD sF))) := by
  have mB := (propext (bk_mem c)).trans (eq_false (by unfold isFig at h; unfold isBl; omega))
  have mL := (propext (let_mem c)).trans (eq_false (by unfold isFig at h; unfold isLet; omega))
  have mF := (propext (fig_mem c)).trans (eq_true h)
  have e' := eq_false hl
  unfold sF at e'
  simp only [rst, sF, rD, flaw_runs1b, runD, dD, dNil, dCons, dAnd, dOr, dNotT, dAndV, dOrV, dNotV, dIf, dTru, dCmpT, dSeq, dRet, dSet, dSetN, dIfS, dNx, dDrop, dOp, dNeg, dTup, dLst, dC, dK, dVar, okD, okN, frz, dCall, ofF, dAug, dPar, dApp, dChain, dListOf, dSlL, dRev,
  M.bind, M.pure, M.no, M.ne, dName, dUnit, dConsG, dTupG, gOr, gI, gS, gAdd, gSubI, gMul, gDiv, gMod, gPow, gIx, gLen, gAbs, gInt1, gSum, gAll, gAny, gMaxL, gMinL, gTupOf, g2I, gDm, gPart, gTru, gBool, gBoolO, gEq_pair, gEq_ints, gEq_sl1, gEq_sl2, opL, gEq_int, gEq_str, gEq_bl, gEq_non, gNone, gIn, gSign, gCat, gRep, gIsi,
  iLt, iLe, iGt, iGe, My.isNon, truD, tagD, seqD, lstD, rdlD, mutD, putL, tupD, vsD, rng1X, rng2X, enuX, zipX, seqX,
  Option.bind, Option.map, Option.bind_some, Option.map_some,
  List.map_cons, List.map_nil, List.length_cons, List.length_nil, List.nil_append, List.cons_append, List.replicate, List.getElem?_cons_zero, List.getElem?_cons_succ, List.set_cons_zero, List.set_cons_succ, List.append_nil,
  if_true, if_false, ite_true, ite_false, Nat.reduceAdd, Int.reduceToNat, Int.reducePow, Nat.reducePow, Int.reduceMul, Int.reduceAdd, Int.reduceSub, Int.reduceLT, Int.reduceLE, Nat.reduceMul, Int.cast_ofNat_Int, Nat.reduceSub, Nat.reduceLT, Nat.reduceLeDiff, ne_eq, reduceCtorEq, not_false_eq_true, not_true_eq_false, Int.reduceEq, Int.reduceNeg, Bool.false_eq_true, Bool.not_true, Bool.not_false, decide_true, decide_false, true_and, and_true, false_and, and_false, or_true, true_or, or_false, false_or, id_eq, Bool.true_eq_false, decide_eq_true_eq, Bool.not_eq_true', decide_eq_false_iff_not, Bool.not_not, blsD, List.all_cons, List.all_nil, List.any_cons, List.any_nil, Bool.and_self, Bool.and_true, Bool.or_false, dFor, dLc, itL, wipeD, backD, isi_NoneType_bool, isi_NoneType_int, isi_NoneType_str, isi_NoneType_tuple, isi_NoneType_list, isi_NoneType_dict, isi_bool_bool, isi_bool_int, isi_bool_str, isi_bool_tuple, isi_bool_list, isi_bool_dict, isi_int_bool, isi_int_int, isi_int_str, isi_int_tuple, isi_int_list, isi_int_dict, isi_str_bool, isi_str_int, isi_str_str, isi_str_tuple, isi_str_list, isi_str_dict, isi_tuple_bool, isi_tuple_int, isi_tuple_str, isi_tuple_tuple, isi_tuple_list, isi_tuple_dict, isi_list_bool, isi_list_int, isi_list_str, isi_list_tuple, isi_list_list, isi_list_dict, isi_dict_bool, isi_dict_int, isi_dict_str, isi_dict_tuple, isi_dict_list, isi_dict_dict, dSlD, dCatN, dLcA, dLcX, dForA, dForX, gStr1, gIsiS, tagS, dJoinS, dIsStr, strsO, gStrA, dRaiseF, dPut, flatV, mB, mL, mF, e', in_F, ne_FB, hz]
theorem app_str (w : List Nat) (c : Nat) : ((⟨w.toArray⟩ : Str) ++ (⟨#[c]⟩ : Str)) = ⟨(w ++ [c]).toArray⟩ := by
  apply str_ext
  show ((w.toArray ++ #[c]).toList) = _
  simp
theorem rs_more (k : Bool) (t : Str) (S : List Cell) (acc : List D) (p a : Int) (w : List Nat) (c : Nat) (x5 : Slot) (h : if k then isLet c else isFig c) (hw : w.length ≤ 100000) :
    flaw_runs1b (rst t S (acc ++ [rD (p, ⟨w.toArray⟩)]) (if k then sL else sF) (.d (.v (.int a))) (.d (.v (.str ⟨#[c]⟩))) x5) = .ok .nx (rst t S (acc ++ [rD (p, ⟨(w ++ [c]).toArray⟩)]) (if k then sL else sF) (.d (.v (.int a))) (.d (.v (.str ⟨#[c]⟩))) (.d (sD (if k then sL else sF)))) := by
  have al := at_lastD acc (rD (p, ⟨w.toArray⟩))
  have il := ix_last acc (rD (p, ⟨w.toArray⟩))
  have sl := fun y => set_last acc (rD (p, ⟨w.toArray⟩)) y
  have a0 : atI [D.v (.int p), sD ⟨w.toArray⟩] 0 = some (D.v (.int p)) := rfl
  have a1 : atI [D.v (.int p), sD ⟨w.toArray⟩] 1 = some (sD ⟨w.toArray⟩) := rfl
  have lw := sl_len w
  have l1 : (⟨#[c]⟩ : Str).length = 1 := rfl
  have hs : (⟨w.toArray⟩ : Str).length + 1 ≤ 1000000 := by rw [lw]; omega
  have ap := app_str w c
  cases k with
  | true =>
    have h : isLet c := h
    have mB := (propext (bk_mem c)).trans (eq_false (by unfold isLet at h; unfold isBl; omega))
    have mL := (propext (let_mem c)).trans (eq_true h)
    have mF := (propext (fig_mem c)).trans (eq_false (by unfold isLet at h; unfold isFig; omega))
    simp only [rD] at al il sl ⊢
    simp only [rst, sL, sF, flaw_runs1b, runD, dD, dNil, dCons, dAnd, dOr, dNotT, dAndV, dOrV, dNotV, dIf, dTru, dCmpT, dSeq, dRet, dSet, dSetN, dIfS, dNx, dDrop, dOp, dNeg, dTup, dLst, dC, dK, dVar, okD, okN, frz, dCall, ofF, dAug, dPar, dApp, dChain, dListOf, dSlL, dRev,
  M.bind, M.pure, M.no, M.ne, dName, dUnit, dConsG, dTupG, gOr, gI, gS, gAdd, gSubI, gMul, gDiv, gMod, gPow, gIx, gLen, gAbs, gInt1, gSum, gAll, gAny, gMaxL, gMinL, gTupOf, g2I, gDm, gPart, gTru, gBool, gBoolO, gEq_pair, gEq_ints, gEq_sl1, gEq_sl2, opL, gEq_int, gEq_str, gEq_bl, gEq_non, gNone, gIn, gSign, gCat, gRep, gIsi,
  iLt, iLe, iGt, iGe, My.isNon, truD, tagD, seqD, lstD, rdlD, mutD, putL, tupD, vsD, rng1X, rng2X, enuX, zipX, seqX,
  Option.bind, Option.map, Option.bind_some, Option.map_some,
  List.map_cons, List.map_nil, List.length_cons, List.length_nil, List.nil_append, List.cons_append, List.replicate, List.getElem?_cons_zero, List.getElem?_cons_succ, List.set_cons_zero, List.set_cons_succ, List.append_nil,
  if_true, if_false, ite_true, ite_false, Nat.reduceAdd, Int.reduceToNat, Int.reducePow, Nat.reducePow, Int.reduceMul, Int.reduceAdd, Int.reduceSub, Int.reduceLT, Int.reduceLE, Nat.reduceMul, Int.cast_ofNat_Int, Nat.reduceSub, Nat.reduceLT, Nat.reduceLeDiff, ne_eq, reduceCtorEq, not_false_eq_true, not_true_eq_false, Int.reduceEq, Int.reduceNeg, Bool.false_eq_true, Bool.not_true, Bool.not_false, decide_true, decide_false, true_and, and_true, false_and, and_false, or_true, true_or, or_false, false_or, id_eq, Bool.true_eq_false, decide_eq_true_eq, Bool.not_eq_true', decide_eq_false_iff_not, Bool.not_not, blsD, List.all_cons, List.all_nil, List.any_cons, List.any_nil, Bool.and_self, Bool.and_true, Bool.or_false, dFor, dLc, itL, wipeD, backD, isi_NoneType_bool, isi_NoneType_int, isi_NoneType_str, isi_NoneType_tuple, isi_NoneType_list, isi_NoneType_dict, isi_bool_bool, isi_bool_int, isi_bool_str, isi_bool_tuple, isi_bool_list, isi_bool_dict, isi_int_bool, isi_int_int, isi_int_str, isi_int_tuple, isi_int_list, isi_int_dict, isi_str_bool, isi_str_int, isi_str_str, isi_str_tuple, isi_str_list, isi_str_dict, isi_tuple_bool, isi_tuple_int, isi_tuple_str, isi_tuple_tuple, isi_tuple_list, isi_tuple_dict, isi_list_bool, isi_list_int, isi_list_str, isi_list_tuple, isi_list_list, isi_list_dict, isi_dict_bool, isi_dict_int, isi_dict_str, isi_dict_tuple, isi_dict_list, isi_dict_dict, dSlD, dCatN, dLcA, dLcX, dForA, dForX, gStr1, gIsiS, tagS, dJoinS, dIsStr, strsO, gStrA, dRaiseF, dPut, flatV, mB, mL, mF, in_L, al, il, sl, a0, a1, l1, hs, ap]
  | false =>
    have h : isFig c := h
    have mB := (propext (bk_mem c)).trans (eq_false (by unfold isFig at h; unfold isBl; omega))
    have mL := (propext (let_mem c)).trans (eq_false (by unfold isFig at h; unfold isLet; omega))
    have mF := (propext (fig_mem c)).trans (eq_true h)
    simp only [rD] at al il sl ⊢
    simp only [rst, sL, sF, flaw_runs1b, runD, dD, dNil, dCons, dAnd, dOr, dNotT, dAndV, dOrV, dNotV, dIf, dTru, dCmpT, dSeq, dRet, dSet, dSetN, dIfS, dNx, dDrop, dOp, dNeg, dTup, dLst, dC, dK, dVar, okD, okN, frz, dCall, ofF, dAug, dPar, dApp, dChain, dListOf, dSlL, dRev,
  M.bind, M.pure, M.no, M.ne, dName, dUnit, dConsG, dTupG, gOr, gI, gS, gAdd, gSubI, gMul, gDiv, gMod, gPow, gIx, gLen, gAbs, gInt1, gSum, gAll, gAny, gMaxL, gMinL, gTupOf, g2I, gDm, gPart, gTru, gBool, gBoolO, gEq_pair, gEq_ints, gEq_sl1, gEq_sl2, opL, gEq_int, gEq_str, gEq_bl, gEq_non, gNone, gIn, gSign, gCat, gRep, gIsi,
  iLt, iLe, iGt, iGe, My.isNon, truD, tagD, seqD, lstD, rdlD, mutD, putL, tupD, vsD, rng1X, rng2X, enuX, zipX, seqX,
  Option.bind, Option.map, Option.bind_some, Option.map_some,
  List.map_cons, List.map_nil, List.length_cons, List.length_nil, List.nil_append, List.cons_append, List.replicate, List.getElem?_cons_zero, List.getElem?_cons_succ, List.set_cons_zero, List.set_cons_succ, List.append_nil,
  if_true, if_false, ite_true, ite_false, Nat.reduceAdd, Int.reduceToNat, Int.reducePow, Nat.reducePow, Int.reduceMul, Int.reduceAdd, Int.reduceSub, Int.reduceLT, Int.reduceLE, Nat.reduceMul, Int.cast_ofNat_Int, Nat.reduceSub, Nat.reduceLT, Nat.reduceLeDiff, ne_eq, reduceCtorEq, not_false_eq_true, not_true_eq_false, Int.reduceEq, Int.reduceNeg, Bool.false_eq_true, Bool.not_true, Bool.not_false, decide_true, decide_false, true_and, and_true, false_and, and_false, or_true, true_or, or_false, false_or, id_eq, Bool.true_eq_false, decide_eq_true_eq, Bool.not_eq_true', decide_eq_false_iff_not, Bool.not_not, blsD, List.all_cons, List.all_nil, List.any_cons, List.any_nil, Bool.and_self, Bool.and_true, Bool.or_false, dFor, dLc, itL, wipeD, backD, isi_NoneType_bool, isi_NoneType_int, isi_NoneType_str, isi_NoneType_tuple, isi_NoneType_list, isi_NoneType_dict, isi_bool_bool, isi_bool_int, isi_bool_str, isi_bool_tuple, isi_bool_list, isi_bool_dict, isi_int_bool, isi_int_int, isi_int_str, isi_int_tuple, isi_int_list, isi_int_dict, isi_str_bool, isi_str_int, isi_str_str, isi_str_tuple, isi_str_list, isi_str_dict, isi_tuple_bool, isi_tuple_int, isi_tuple_str, isi_tuple_tuple, isi_tuple_list, isi_tuple_dict, isi_list_bool, isi_list_int, isi_list_str, isi_list_tuple, isi_list_list, isi_list_dict, isi_dict_bool, isi_dict_int, isi_dict_str, isi_dict_tuple, isi_dict_list, isi_dict_dict, dSlD, dCatN, dLcA, dLcX, dForA, dForX, gStr1, gIsiS, tagS, dJoinS, dIsStr, strsO, gStrA, dRaiseF, dPut, flatV, mB, mL, mF, in_F, al, il, sl, a0, a1, l1, hs, ap]
def enD (a : Int) : List Nat → List D
  | [] => []
  | c :: r => .tup [.v (.int a), .v (.str ⟨#[c]⟩)] :: enD (a + 1) r
theorem enD_at : ∀ (cs : List Nat) (a : Int) (i : Nat), (enD a cs)[i]? = cs[i]?.map fun c => D.tup [.v (.int (a + i)), .v (.str ⟨#[c]⟩)]
  | [], a, i => by simp [enD]
  | c :: r, a, 0 => by simp [enD]
  | c :: r, a, i + 1 => by
    have e := enD_at r (a + 1) i
    have e2 : a + 1 + (i : Int) = a + ((i + 1 : Nat) : Int) := by omega
    rw [e2] at e
    simpa [enD] using e
theorem enS_D (t : Str) : enS t = enD 0 t.cps.toList := by
  apply List.ext_getElem?
  intro i
  rw [enD_at]
  unfold enS
  rw [List.getElem?_map]
  by_cases h : i < t.cps.size
  · rw [List.getElem?_range h]
    have e : t.cps.toList[i]? = some (t.cps.toList.getD i 0) := by
      rw [List.getD_eq_getElem?_getD, List.getElem?_eq_getElem (by simpa using h)]
      rfl
    rw [e]
    simp
  · rw [List.getElem?_eq_none (by simpa using h), List.getElem?_eq_none (by simpa using h)]
    rfl
abbrev rdg : D → M Unit := dTupG 2 (dConsG (dName 3) (dConsG (dName 4) dUnit))
theorem rdg_ok (t : Str) (S : List Cell) (acc : List D) (last : Str) (x3 x4 x5 : Slot) (a : Int) (c : Nat) : rdg (.tup [.v (.int a), .v (.str ⟨#[c]⟩)]) (rst t S acc last x3 x4 x5) = .ok () (rst t S acc last (.d (.v (.int a))) (.d (.v (.str ⟨#[c]⟩))) x5) := rfl
theorem runs_more (k : Bool) (t : Str) (S : List Cell) (acc : List D) (p : Int) (r : List Nat) : ∀ (u w : List Nat) (a : Int) (x3 x4 x5 : Slot), (∀ c ∈ u, if k then isLet c else isFig c) → w.length + u.length ≤ 100000 →
    ∃ y3 y4 y5, itF rdg flaw_runs1b (enD a (u ++ r)) (rst t S (acc ++ [rD (p, ⟨w.toArray⟩)]) (if k then sL else sF) x3 x4 x5) = itF rdg flaw_runs1b (enD (a + u.length) r) (rst t S (acc ++ [rD (p, ⟨(w ++ u).toArray⟩)]) (if k then sL else sF) y3 y4 y5)
  | [], w, a, x3, x4, x5, _, _ => ⟨x3, x4, x5, by rw [List.append_nil, List.nil_append]; simp⟩
  | c :: u, w, a, x3, x4, x5, hk, hz => by
    obtain ⟨y3, y4, y5, e⟩ := runs_more k t S acc p r u (w ++ [c]) (a + 1) (.d (.v (.int a))) (.d (.v (.str ⟨#[c]⟩))) (.d (sD (if k then sL else sF))) (fun x hx => hk x (List.mem_cons_of_mem _ hx)) (by simp at hz ⊢; omega)
    refine ⟨y3, y4, y5, ?_⟩
    rw [List.append_assoc] at e
    have e2 : a + 1 + (u.length : Int) = a + ((c :: u).length : Int) := by simp; omega
    rw [e2] at e
    refine Eq.trans ?_ e
    exact itF_next (rdg_ok ..) (rs_more k t S acc p a w c x5 (hk c List.mem_cons_self) (by simp at hz; omega))
def lastOk (last : Str) (cs : List Nat) : Prop := (sL = last → ∀ c ∈ cs.head?, ¬ isLet c) ∧ (sF = last → ∀ c ∈ cs.head?, ¬ isFig c)
theorem s_LF : sL ≠ sF := by decide +kernel
theorem s_LO : sL ≠ sO := by decide +kernel
theorem s_LB : sL ≠ sB := by decide +kernel
theorem s_FO : sF ≠ sO := by decide +kernel
theorem s_FB : sF ≠ sB := by decide +kernel
theorem runs_go (t : Str) (S : List Cell) : ∀ {a : Int} {cs : List Nat} {l : List (Int × Str)}, Rn a cs l → ∀ (acc : List D) (last : Str) (x3 x4 x5 : Slot), lastOk last cs → acc.length + cs.length ≤ 100000 →
    ∃ last' y3 y4 y5, itF rdg flaw_runs1b (enD a cs) (rst t S acc last x3 x4 x5) = .ok .nx (rst t S (acc ++ l.map rD) last' y3 y4 y5) := by
  intro a cs l hx
  induction hx with
  | nil =>
    intro acc last x3 x4 x5 _ _
    exact ⟨last, x3, x4, x5, by rw [List.map_nil, List.append_nil]; rfl⟩
  | @bl a c r l hc _ ih =>
    intro acc last x3 x4 x5 _ hz
    obtain ⟨l', y3, y4, y5, e⟩ := ih acc sB (.d (.v (.int a))) (.d (.v (.str ⟨#[c]⟩))) (.d (sD sB)) ⟨fun z => absurd z s_LB, fun z => absurd z s_FB⟩ (by simp at hz; omega)
    exact ⟨l', y3, y4, y5, (itF_next (rdg_ok ..) (rs_bl t S acc last a c x5 hc)).trans e⟩
  | @one a c r l hb h1 h2 _ ih =>
    intro acc last x3 x4 x5 _ hz
    obtain ⟨l', y3, y4, y5, e⟩ := ih (acc ++ [rD (a, ⟨#[c]⟩)]) sO (.d (.v (.int a))) (.d (.v (.str ⟨#[c]⟩))) (.d (sD sO)) ⟨fun z => absurd z s_LO, fun z => absurd z s_FO⟩ (by simp at hz ⊢; omega)
    refine ⟨l', y3, y4, y5, ?_⟩
    rw [List.append_assoc] at e
    exact (itF_next (rdg_ok ..) (rs_one t S acc last a c x5 hb h1 h2 (by simp at hz; omega))).trans e
  | @letr a u r l hu h1 h2 _ ih =>
    intro acc last x3 x4 x5 hl hz
    obtain ⟨c, cs, rfl⟩ := List.exists_cons_of_ne_nil hu
    have hc := h1 c List.mem_cons_self
    have nl : sL ≠ last := fun z => hl.1 z c rfl hc
    obtain ⟨z3, z4, z5, e1⟩ := runs_more true t S acc a r cs [c] (a + 1) (.d (.v (.int a))) (.d (.v (.str ⟨#[c]⟩))) (.d (sD sL)) (fun x hx => h1 x (List.mem_cons_of_mem _ hx)) (by simp at hz ⊢; omega)
    have e3 : a + 1 + (cs.length : Int) = a + ((c :: cs).length : Int) := by simp; omega
    rw [e3] at e1
    obtain ⟨l', y3, y4, y5, e⟩ := ih (acc ++ [rD (a, ⟨(c :: cs).toArray⟩)]) sL z3 z4 z5 ⟨fun _ => h2, fun z => absurd z (Ne.symm s_LF)⟩ (by simp at hz ⊢; omega)
    refine ⟨l', y3, y4, y5, ?_⟩
    rw [List.append_assoc] at e
    exact (itF_next (rdg_ok ..) (rs_let t S acc last a c x5 hc nl (by simp at hz; omega))).trans (e1.trans e)
  | @fig a u r l hu h1 h2 _ ih =>
    intro acc last x3 x4 x5 hl hz
    obtain ⟨c, cs, rfl⟩ := List.exists_cons_of_ne_nil hu
    have hc := h1 c List.mem_cons_self
    have nl : sF ≠ last := fun z => hl.2 z c rfl hc
    obtain ⟨z3, z4, z5, e1⟩ := runs_more false t S acc a r cs [c] (a + 1) (.d (.v (.int a))) (.d (.v (.str ⟨#[c]⟩))) (.d (sD sF)) (fun x hx => h1 x (List.mem_cons_of_mem _ hx)) (by simp at hz ⊢; omega)
    have e3 : a + 1 + (cs.length : Int) = a + ((c :: cs).length : Int) := by simp; omega
    rw [e3] at e1
    obtain ⟨l', y3, y4, y5, e⟩ := ih (acc ++ [rD (a, ⟨(c :: cs).toArray⟩)]) sF z3 z4 z5 ⟨fun z => absurd z s_LF, fun _ => h2⟩ (by simp at hz ⊢; omega)
    refine ⟨l', y3, y4, y5, ?_⟩
    rw [List.append_assoc] at e
    exact (itF_next (rdg_ok ..) (rs_fig t S acc last a c x5 hc nl (by simp at hz; omega))).trans (e1.trans e)
theorem runs_ok {t : Str} {l : List (Int × Str)} (h : Rn 0 t.cps.toList l) (hz : t.length ≤ 10000) (S : List Cell) : g_law_runs [sD t] S = .ok (.lst (l.map rD)) S := by
  obtain ⟨l', y3, y4, y5, e⟩ := runs_go t S h [] sB .no .no .no ⟨fun z => absurd z s_LB, fun z => absurd z s_FB⟩ (by rw [← t_len]; simp; omega)
  rw [← enS_D, List.nil_append] at e
  simp only [rst, rdg, sB] at e
  simp only [g_law_runs, den_law_runs, dFor, runD, dD, dNil, dCons, dAnd, dOr, dNotT, dAndV, dOrV, dNotV, dIf, dTru, dCmpT, dSeq, dRet, dSet, dSetN, dIfS, dNx, dDrop, dOp, dNeg, dTup, dLst, dC, dK, dVar, okD, okN, frz, dCall, ofF, dAug, dPar, dApp, dChain, dListOf, dSlL, dRev,
  M.bind, M.pure, M.no, M.ne, dName, dUnit, dConsG, dTupG, gOr, gI, gS, gAdd, gSubI, gMul, gDiv, gMod, gPow, gIx, gLen, gAbs, gInt1, gSum, gAll, gAny, gMaxL, gMinL, gTupOf, g2I, gDm, gPart, gTru, gBool, gBoolO, gEq_pair, gEq_ints, gEq_sl1, gEq_sl2, opL, gEq_int, gEq_str, gEq_bl, gEq_non, gNone, gIn, gSign, gCat, gRep, gIsi,
  iLt, iLe, iGt, iGe, My.isNon, truD, tagD, seqD, lstD, rdlD, mutD, putL, tupD, vsD, rng1X, rng2X, enuX, zipX, seqX,
  Option.bind, Option.map, Option.bind_some, Option.map_some,
  List.map_cons, List.map_nil, List.length_cons, List.length_nil, List.nil_append, List.cons_append, List.replicate, List.getElem?_cons_zero, List.getElem?_cons_succ, List.set_cons_zero, List.set_cons_succ, List.append_nil,
  if_true, if_false, ite_true, ite_false, Nat.reduceAdd, Int.reduceToNat, Int.reducePow, Nat.reducePow, Int.reduceMul, Int.reduceAdd, Int.reduceSub, Int.reduceLT, Int.reduceLE, Nat.reduceMul, Int.cast_ofNat_Int, Nat.reduceSub, Nat.reduceLT, Nat.reduceLeDiff, ne_eq, reduceCtorEq, not_false_eq_true, not_true_eq_false, Int.reduceEq, Int.reduceNeg, Bool.false_eq_true, Bool.not_true, Bool.not_false, decide_true, decide_false, true_and, and_true, false_and, and_false, or_true, true_or, or_false, false_or, id_eq, Bool.true_eq_false, decide_eq_true_eq, Bool.not_eq_true', decide_eq_false_iff_not, Bool.not_not, blsD, List.all_cons, List.all_nil, List.any_cons, List.any_nil, Bool.and_self, Bool.and_true, Bool.or_false, dFor, dLc, itL, wipeD, backD, isi_NoneType_bool, isi_NoneType_int, isi_NoneType_str, isi_NoneType_tuple, isi_NoneType_list, isi_NoneType_dict, isi_bool_bool, isi_bool_int, isi_bool_str, isi_bool_tuple, isi_bool_list, isi_bool_dict, isi_int_bool, isi_int_int, isi_int_str, isi_int_tuple, isi_int_list, isi_int_dict, isi_str_bool, isi_str_int, isi_str_str, isi_str_tuple, isi_str_list, isi_str_dict, isi_tuple_bool, isi_tuple_int, isi_tuple_str, isi_tuple_tuple, isi_tuple_list, isi_tuple_dict, isi_list_bool, isi_list_int, isi_list_str, isi_list_tuple, isi_list_list, isi_list_dict, isi_dict_bool, isi_dict_int, isi_dict_str, isi_dict_tuple, isi_dict_list, isi_dict_dict, enSX, e]
theorem ok_law_runs (T : Tx K mg Env.HallError Env.BadSign Env.BadText Env.BadName Env.BadNumber Env.BadRing Env.BadLoan Env.TooMany Env.NoDoor Env.BadChange Env.BadKept) : Okf P w K mg base 1 "_law_runs" ["_law_text_here"] g_law_runs := (raw_law_runs T ).by eq_law_runs
abbrev slaw_told_words : Stmt := (top 26)
abbrev Nlaw_told_words : List Str := ["_law_some"]
theorem sclaw_told_words : FnScope Nlaw_told_words [] (defScope slaw_told_words) := ⟨rfl, rfl, rfl, by decide +kernel, rfl, by decide +kernel, by decide +kernel⟩
noncomputable def den_law_told_words : M Fl :=
    (dSeq (dSetN 0 (dLst (dCons (dD (dC (.str "pool"))) (dCons (dD (dC (.str "holds"))) (dCons (dD (dC (.str "door"))) (dCons (dD (dC (.str "rank"))) (dCons (dD (dC (.str "at"))) (dCons (dD (dC (.str "draws"))) (dCons (dD (dC (.str "upto"))) (dCons (dD (dC (.str "gaps"))) (dCons (dD (dC (.str "to"))) (dCons (dD (dC (.str "from"))) (dCons (dD (dC (.str "then"))) (dCons (dD (dC (.str "way"))) (dCons (dD (dC (.str "takes"))) dNil)))))))))))))))
    (dSeq (dSet 0 (dOp gAdd (dVar 0) (okN (dLst (dCons (dD (dC (.str "desk"))) (dCons (dD (dC (.str "hands"))) (dCons (dD (dC (.str "ranked"))) (dCons (dD (dC (.str "rests"))) (dCons (dD (dC (.str "gate"))) (dCons (dD (dC (.str "opens"))) (dCons (dD (dC (.str "for"))) (dCons (dD (dC (.str "below"))) (dCons (dD (dC (.str "fork"))) (dCons (dD (dC (.str "by"))) (dCons (dD (dC (.str "turns"))) dNil)))))))))))))))
    (dRet (dOp gAdd (dVar 0) (okN (dLst (dCons (dD (dC (.str "number"))) (dCons (dD (dC (.str "least"))) (dCons (dD (dC (.str "lend"))) (dCons (dD (dC (.str "of"))) (dCons (dD (dC (.str "give"))) (dCons (dD (dC (.str "exit"))) (dCons (dD (dC (.str "change"))) dNil)))))))))))))
theorem raw_law_told_words (T : Tx K mg Env.HallError Env.BadSign Env.BadText Env.BadName Env.BadNumber Env.BadRing Env.BadLoan Env.TooMany Env.NoDoor Env.BadChange Env.BadKept) : Okf P w K mg base 1 "_law_told_words" [] (runD 1 0 den_law_told_words) := by
  have sc := sclaw_told_words
  exact ok_has (N := Nlaw_told_words) T.d_law_told_words sc rfl (by decide) fun f cdv A outer s H E hr => ⟨_, ((bd_cons (sd_setN (i := 0) sc.nd rfl (by first | exact Or.inl rfl | exact Or.inr rfl) (en_lst (ad_cons (ED.d ed_str) (ad_cons (ED.d ed_str) (ad_cons (ED.d ed_str) (ad_cons (ED.d ed_str) (ad_cons (ED.d ed_str) (ad_cons (ED.d ed_str) (ad_cons (ED.d ed_str) (ad_cons (ED.d ed_str) (ad_cons (ED.d ed_str) (ad_cons (ED.d ed_str) (ad_cons (ED.d ed_str) (ad_cons (ED.d ed_str) (ad_cons (ED.d ed_str) ad_nil)))))))))))))))
    (bd_cons (sd_set (i := 0) sc.nd rfl (by first | exact Or.inl rfl | exact Or.inr rfl) (dd_add (ed_var 0) (EN.e (en_lst (ad_cons (ED.d ed_str) (ad_cons (ED.d ed_str) (ad_cons (ED.d ed_str) (ad_cons (ED.d ed_str) (ad_cons (ED.d ed_str) (ad_cons (ED.d ed_str) (ad_cons (ED.d ed_str) (ad_cons (ED.d ed_str) (ad_cons (ED.d ed_str) (ad_cons (ED.d ed_str) (ad_cons (ED.d ed_str) ad_nil)))))))))))))))
    (bd_one (sd_ret (dd_add (ed_var 0) (EN.e (en_lst (ad_cons (ED.d ed_str) (ad_cons (ED.d ed_str) (ad_cons (ED.d ed_str) (ad_cons (ED.d ed_str) (ad_cons (ED.d ed_str) (ad_cons (ED.d ed_str) (ad_cons (ED.d ed_str) ad_nil)))))))))))))) : BD _ _ _ _ den_law_told_words)⟩
noncomputable def g_law_told_words : G := runD 1 0 den_law_told_words
theorem eq_law_told_words : ∀ ds S, g_law_told_words ds S ≠ .no → runD 1 0 den_law_told_words ds S = g_law_told_words ds S := fun _ _ _ => rfl

theorem tw_ok (S : List Cell) : g_law_told_words [] S = .ok (.lst (Ss TOLDs)) S := by
  simp only [g_law_told_words, den_law_told_words, runD, dD, dNil, dCons, dAnd, dOr, dNotT, dAndV, dOrV, dNotV, dIf, dTru, dCmpT, dSeq, dRet, dSet, dSetN, dIfS, dNx, dDrop, dOp, dNeg, dTup, dLst, dC, dK, dVar, okD, okN, frz, dCall, ofF, dAug, dPar, dApp, dChain, dListOf, dSlL, dRev,
  M.bind, M.pure, M.no, M.ne, dName, dUnit, dConsG, dTupG, gOr, gI, gS, gAdd, gSubI, gMul, gDiv, gMod, gPow, gIx, gLen, gAbs, gInt1, gSum, gAll, gAny, gMaxL, gMinL, gTupOf, g2I, gDm, gPart, gTru, gBool, gBoolO, gEq_pair, gEq_ints, gEq_sl1, gEq_sl2, opL, gEq_int, gEq_str, gEq_bl, gEq_non, gNone, gIn, gSign, gCat, gRep, gIsi,
  iLt, iLe, iGt, iGe, My.isNon, truD, tagD, seqD, lstD, rdlD, mutD, putL, tupD, vsD, rng1X, rng2X, enuX, zipX, seqX,
  Option.bind, Option.map, Option.bind_some, Option.map_some,
  List.map_cons, List.map_nil, List.length_cons, List.length_nil, List.nil_append, List.cons_append, List.replicate, List.getElem?_cons_zero, List.getElem?_cons_succ, List.set_cons_zero, List.set_cons_succ, List.append_nil,
  if_true, if_false, ite_true, ite_false, Nat.reduceAdd, Int.reduceToNat, Int.reducePow, Nat.reducePow, Int.reduceMul, Int.reduceAdd, Int.reduceSub, Int.reduceLT, Int.reduceLE, Nat.reduceMul, Int.cast_ofNat_Int, Nat.reduceSub, Nat.reduceLT, Nat.reduceLeDiff, ne_eq, reduceCtorEq, not_false_eq_true, not_true_eq_false, Int.reduceEq, Int.reduceNeg, Bool.false_eq_true, Bool.not_true, Bool.not_false, decide_true, decide_false, true_and, and_true, false_and, and_false, or_true, true_or, or_false, false_or, id_eq, Bool.true_eq_false, decide_eq_true_eq, Bool.not_eq_true', decide_eq_false_iff_not, Bool.not_not, blsD, List.all_cons, List.all_nil, List.any_cons, List.any_nil, Bool.and_self, Bool.and_true, Bool.or_false, dFor, dLc, itL, wipeD, backD, isi_NoneType_bool, isi_NoneType_int, isi_NoneType_str, isi_NoneType_tuple, isi_NoneType_list, isi_NoneType_dict, isi_bool_bool, isi_bool_int, isi_bool_str, isi_bool_tuple, isi_bool_list, isi_bool_dict, isi_int_bool, isi_int_int, isi_int_str, isi_int_tuple, isi_int_list, isi_int_dict, isi_str_bool, isi_str_int, isi_str_str, isi_str_tuple, isi_str_list, isi_str_dict, isi_tuple_bool, isi_tuple_int, isi_tuple_str, isi_tuple_tuple, isi_tuple_list, isi_tuple_dict, isi_list_bool, isi_list_int, isi_list_str, isi_list_tuple, isi_list_list, isi_list_dict, isi_dict_bool, isi_dict_int, isi_dict_str, isi_dict_tuple, isi_dict_list, isi_dict_dict, Ss, TOLDs]
theorem ok_law_told_words (T : Tx K mg Env.HallError Env.BadSign Env.BadText Env.BadName Env.BadNumber Env.BadRing Env.BadLoan Env.TooMany Env.NoDoor Env.BadChange Env.BadKept) : Okf P w K mg base 1 "_law_told_words" [] g_law_told_words := (raw_law_told_words T ).by eq_law_told_words
abbrev sis_name : Stmt := (top 19)
abbrev Nis_name : List Str := ["word", "sign"]
theorem scis_name : FnScope Nis_name ["word"] (defScope sis_name) := ⟨rfl, rfl, rfl, by decide +kernel, rfl, by decide +kernel, by decide +kernel⟩
noncomputable def cis_name1e : M D :=
    (dOp (gOr (gIn false) (gSign false)) (dVar 1) (dK k_LETTERS))
noncomputable def den_is_name : M Fl :=
    (dSeq (dIfS (dOr (dNotT (M.bind (dChain (gI iLe) (gI iLe) (dC (.int 1)) (okD (M.bind (dVar 0) gLen)) (dK k_MOST_LETTERS)) gBool)) (dCmpT (gOr (gIn false) (gSign false)) (dVar 0) (dK k_TOLD))) (dRet (dD (dC (.bl false)))) dNx)
    (dRet (M.bind (okN (dLcA (dD (dVar 0)) (dName 1) (M.pure true) cis_name1e [1])) gAll)))
theorem raw_is_name (T : Tx K mg Env.HallError Env.BadSign Env.BadText Env.BadName Env.BadNumber Env.BadRing Env.BadLoan Env.TooMany Env.NoDoor Env.BadChange Env.BadKept) : Okf P w K mg base 1 "is_name" ["word"] (runD 2 1 den_is_name) := by
  have sc := scis_name
  exact ok_has (N := Nis_name) T.d_is_name sc rfl (by decide) fun f cdv A outer s H E hr => ⟨_, ((bd_cons (sd_if (td_w (wd_or (td_not (td_chain cLe cLe ed_int (DD.e (dd_b1 bLen (by rfl) T.n_len (by decide +kernel) (ed_var 0))) (ed_globV (by rfl) T.kc_MOST_LETTERS))) (wd_or1 (td_cmp cIn (ed_var 0) (ed_globT (by rfl) T.kc_TOLD) rfl)))) (bd_one (sd_ret (ED.d ed_bl))) bd_nil)
    (bd_one (sd_ret (dd_b1 (bAll rfl) (by rfl) T.n_all (by decide +kernel) (EN.e (en_lcA (own := [("sign", 1)]) (W' := W0) rfl sc.nd (ED.d (ed_var 0)) (blkOk_by (N := Nis_name) (sc := defScope sis_name) (by decide +kernel)) (fun _ _ _ _ _ => (gd_name (i := 1) sc.nd rfl (by first | exact Or.inl rfl | exact Or.inr rfl))) (fun _ _ _ _ _ => tsd_nil) (fun _ _ _ _ _ => (dd_cmp cIn (ed_var 1) (ed_globV (by rfl) T.kc_LETTERS) rfl)))))))) : BD _ _ _ _ den_is_name)⟩
noncomputable def g_is_name : G := runD 2 1 den_is_name
theorem eq_is_name : ∀ ds S, g_is_name ds S ≠ .no → runD 2 1 den_is_name ds S = g_is_name ds S := fun _ _ _ => rfl

theorem bls_map (f : Nat → Bool) : ∀ xs : List Nat, blsD (xs.map fun c => D.v (V.bl (f c))) = some (xs.map f)
  | [] => rfl
  | c :: r => by
    have e := bls_map f r
    simp only [List.map_cons, blsD, e] at *
    try rfl
theorem isname_all {w : Str} (hz : w.length ≤ 100000) (S : List Cell) : g_is_name [sD w] S = .ok (.v (.bl (decide (1 ≤ w.length ∧ w.length ≤ 8 ∧ w ∉ TOLDs ∧ ∀ c ∈ w.cps.toList, isLet c)))) S := by
  have hl := t_len w
  have l3 : w.length ≤ 1000000 := by omega
  have it := inV_Ss w TOLDs
  by_cases h1 : 1 ≤ w.length
  · by_cases h2 : w.length ≤ 8
    · have l1 : (1 : Int) ≤ (w.length : Int) := by omega
      have l2 : (w.length : Int) ≤ 8 := by omega
      by_cases h4 : w ∈ TOLDs
      · have it : inV (V.str w) [V.str (Str.ofString "pool"), V.str (Str.ofString "holds"), V.str (Str.ofString "door"), V.str (Str.ofString "rank"), V.str (Str.ofString "at"), V.str (Str.ofString "draws"), V.str (Str.ofString "upto"), V.str (Str.ofString "gaps"), V.str (Str.ofString "to"), V.str (Str.ofString "from"), V.str (Str.ofString "then"), V.str (Str.ofString "way"), V.str (Str.ofString "takes"), V.str (Str.ofString "desk"), V.str (Str.ofString "hands"), V.str (Str.ofString "ranked"), V.str (Str.ofString "rests"), V.str (Str.ofString "gate"), V.str (Str.ofString "opens"), V.str (Str.ofString "for"), V.str (Str.ofString "below"), V.str (Str.ofString "fork"), V.str (Str.ofString "by"), V.str (Str.ofString "turns"), V.str (Str.ofString "number"), V.str (Str.ofString "least"), V.str (Str.ofString "lend"), V.str (Str.ofString "of"), V.str (Str.ofString "give"), V.str (Str.ofString "exit"), V.str (Str.ofString "change")] = true := it.trans (decide_eq_true h4)
        have r : decide (1 ≤ w.length ∧ w.length ≤ 8 ∧ w ∉ TOLDs ∧ ∀ c ∈ w.cps.toList, isLet c) = false := decide_eq_false fun q => q.2.2.1 h4
        rw [r]
        simp only [g_is_name, den_is_name, runD, dD, dNil, dCons, dAnd, dOr, dNotT, dAndV, dOrV, dNotV, dIf, dTru, dCmpT, dSeq, dRet, dSet, dSetN, dIfS, dNx, dDrop, dOp, dNeg, dTup, dLst, dC, dK, dVar, okD, okN, frz, dCall, ofF, dAug, dPar, dApp, dChain, dListOf, dSlL, dRev,
  M.bind, M.pure, M.no, M.ne, dName, dUnit, dConsG, dTupG, gOr, gI, gS, gAdd, gSubI, gMul, gDiv, gMod, gPow, gIx, gLen, gAbs, gInt1, gSum, gAll, gAny, gMaxL, gMinL, gTupOf, g2I, gDm, gPart, gTru, gBool, gBoolO, gEq_pair, gEq_ints, gEq_sl1, gEq_sl2, opL, gEq_int, gEq_str, gEq_bl, gEq_non, gNone, gIn, gSign, gCat, gRep, gIsi,
  iLt, iLe, iGt, iGe, My.isNon, truD, tagD, seqD, lstD, rdlD, mutD, putL, tupD, vsD, rng1X, rng2X, enuX, zipX, seqX,
  Option.bind, Option.map, Option.bind_some, Option.map_some,
  List.map_cons, List.map_nil, List.length_cons, List.length_nil, List.nil_append, List.cons_append, List.replicate, List.getElem?_cons_zero, List.getElem?_cons_succ, List.set_cons_zero, List.set_cons_succ, List.append_nil,
  if_true, if_false, ite_true, ite_false, Nat.reduceAdd, Int.reduceToNat, Int.reducePow, Nat.reducePow, Int.reduceMul, Int.reduceAdd, Int.reduceSub, Int.reduceLT, Int.reduceLE, Nat.reduceMul, Int.cast_ofNat_Int, Nat.reduceSub, Nat.reduceLT, Nat.reduceLeDiff, ne_eq, reduceCtorEq, not_false_eq_true, not_true_eq_false, Int.reduceEq, Int.reduceNeg, Bool.false_eq_true, Bool.not_true, Bool.not_false, decide_true, decide_false, true_and, and_true, false_and, and_false, or_true, true_or, or_false, false_or, id_eq, Bool.true_eq_false, decide_eq_true_eq, Bool.not_eq_true', decide_eq_false_iff_not, Bool.not_not, blsD, List.all_cons, List.all_nil, List.any_cons, List.any_nil, Bool.and_self, Bool.and_true, Bool.or_false, dFor, dLc, itL, wipeD, backD, isi_NoneType_bool, isi_NoneType_int, isi_NoneType_str, isi_NoneType_tuple, isi_NoneType_list, isi_NoneType_dict, isi_bool_bool, isi_bool_int, isi_bool_str, isi_bool_tuple, isi_bool_list, isi_bool_dict, isi_int_bool, isi_int_int, isi_int_str, isi_int_tuple, isi_int_list, isi_int_dict, isi_str_bool, isi_str_int, isi_str_str, isi_str_tuple, isi_str_list, isi_str_dict, isi_tuple_bool, isi_tuple_int, isi_tuple_str, isi_tuple_tuple, isi_tuple_list, isi_tuple_dict, isi_list_bool, isi_list_int, isi_list_str, isi_list_tuple, isi_list_list, isi_list_dict, isi_dict_bool, isi_dict_int, isi_dict_str, isi_dict_tuple, isi_dict_list, isi_dict_dict, dLcA, dLcX, k_MOST_LETTERS, k_TOLD, flatV, l1, l2, l3, it]
      · have it : inV (V.str w) [V.str (Str.ofString "pool"), V.str (Str.ofString "holds"), V.str (Str.ofString "door"), V.str (Str.ofString "rank"), V.str (Str.ofString "at"), V.str (Str.ofString "draws"), V.str (Str.ofString "upto"), V.str (Str.ofString "gaps"), V.str (Str.ofString "to"), V.str (Str.ofString "from"), V.str (Str.ofString "then"), V.str (Str.ofString "way"), V.str (Str.ofString "takes"), V.str (Str.ofString "desk"), V.str (Str.ofString "hands"), V.str (Str.ofString "ranked"), V.str (Str.ofString "rests"), V.str (Str.ofString "gate"), V.str (Str.ofString "opens"), V.str (Str.ofString "for"), V.str (Str.ofString "below"), V.str (Str.ofString "fork"), V.str (Str.ofString "by"), V.str (Str.ofString "turns"), V.str (Str.ofString "number"), V.str (Str.ofString "least"), V.str (Str.ofString "lend"), V.str (Str.ofString "of"), V.str (Str.ofString "give"), V.str (Str.ofString "exit"), V.str (Str.ofString "change")] = false := it.trans (decide_eq_false h4)
        have L : ∀ (r0 : List Slot), itL (dName 1) (M.pure true) cis_name1e [1] r0 (sgnD w) [] ⟨[.d (sD w), .no], S⟩ = .ok (w.cps.toList.map fun c => D.v (V.bl (decide (isLet c)))) ⟨[.d (sD w), .no], S⟩ := fun r0 => by
          have e := itL_all (enc := fun k => D.v (V.str ⟨#[k]⟩)) (f := fun c => D.v (V.bl (decide (isLet c)))) (w := [.d (sD w), .no]) (dg := dName 1) (de := cis_name1e) (vs := [1]) (r0 := r0) (S := S) w.cps.toList ⟨[.d (sD w), .no], S⟩ rfl rfl (by rw [← hl]; exact l3) (fun c hc => by
            have m := propext (let_mem c)
            refine ⟨⟨[.d (sD w), .d (sD ⟨#[c]⟩)], S⟩, rfl, ⟨[.d (sD w), .d (sD ⟨#[c]⟩)], S⟩, ?_, rfl, rfl⟩
            simp only [cis_name1e, runD, dD, dNil, dCons, dAnd, dOr, dNotT, dAndV, dOrV, dNotV, dIf, dTru, dCmpT, dSeq, dRet, dSet, dSetN, dIfS, dNx, dDrop, dOp, dNeg, dTup, dLst, dC, dK, dVar, okD, okN, frz, dCall, ofF, dAug, dPar, dApp, dChain, dListOf, dSlL, dRev,
  M.bind, M.pure, M.no, M.ne, dName, dUnit, dConsG, dTupG, gOr, gI, gS, gAdd, gSubI, gMul, gDiv, gMod, gPow, gIx, gLen, gAbs, gInt1, gSum, gAll, gAny, gMaxL, gMinL, gTupOf, g2I, gDm, gPart, gTru, gBool, gBoolO, gEq_pair, gEq_ints, gEq_sl1, gEq_sl2, opL, gEq_int, gEq_str, gEq_bl, gEq_non, gNone, gIn, gSign, gCat, gRep, gIsi,
  iLt, iLe, iGt, iGe, My.isNon, truD, tagD, seqD, lstD, rdlD, mutD, putL, tupD, vsD, rng1X, rng2X, enuX, zipX, seqX,
  Option.bind, Option.map, Option.bind_some, Option.map_some,
  List.map_cons, List.map_nil, List.length_cons, List.length_nil, List.nil_append, List.cons_append, List.replicate, List.getElem?_cons_zero, List.getElem?_cons_succ, List.set_cons_zero, List.set_cons_succ, List.append_nil,
  if_true, if_false, ite_true, ite_false, Nat.reduceAdd, Int.reduceToNat, Int.reducePow, Nat.reducePow, Int.reduceMul, Int.reduceAdd, Int.reduceSub, Int.reduceLT, Int.reduceLE, Nat.reduceMul, Int.cast_ofNat_Int, Nat.reduceSub, Nat.reduceLT, Nat.reduceLeDiff, ne_eq, reduceCtorEq, not_false_eq_true, not_true_eq_false, Int.reduceEq, Int.reduceNeg, Bool.false_eq_true, Bool.not_true, Bool.not_false, decide_true, decide_false, true_and, and_true, false_and, and_false, or_true, true_or, or_false, false_or, id_eq, Bool.true_eq_false, decide_eq_true_eq, Bool.not_eq_true', decide_eq_false_iff_not, Bool.not_not, blsD, List.all_cons, List.all_nil, List.any_cons, List.any_nil, Bool.and_self, Bool.and_true, Bool.or_false, dFor, dLc, itL, wipeD, backD, isi_NoneType_bool, isi_NoneType_int, isi_NoneType_str, isi_NoneType_tuple, isi_NoneType_list, isi_NoneType_dict, isi_bool_bool, isi_bool_int, isi_bool_str, isi_bool_tuple, isi_bool_list, isi_bool_dict, isi_int_bool, isi_int_int, isi_int_str, isi_int_tuple, isi_int_list, isi_int_dict, isi_str_bool, isi_str_int, isi_str_str, isi_str_tuple, isi_str_list, isi_str_dict, isi_tuple_bool, isi_tuple_int, isi_tuple_str, isi_tuple_tuple, isi_tuple_list, isi_tuple_dict, isi_list_bool, isi_list_int, isi_list_str, isi_list_tuple, isi_list_list, isi_list_dict, isi_dict_bool, isi_dict_int, isi_dict_str, isi_dict_tuple, isi_dict_list, isi_dict_dict, k_LETTERS, flatV, m])
          exact e
        have bm := bls_map (fun c => decide (isLet c)) w.cps.toList
        have zl : (w.cps.toList.map fun c => D.v (V.bl (decide (isLet c)))).length ≤ 1000000 := by rw [List.length_map, ← hl]; exact l3
        have fin : decide (1 ≤ w.length ∧ w.length ≤ 8 ∧ w ∉ TOLDs ∧ ∀ c ∈ w.cps.toList, isLet c) = (w.cps.toList.map fun c => decide (isLet c)).all id := by
          rw [List.all_map]
          have e2 : (w.cps.toList.all (id ∘ fun c => decide (isLet c))) = decide (∀ c ∈ w.cps.toList, isLet c) := by
            rw [Bool.eq_iff_iff, List.all_eq_true, decide_eq_true_iff]
            exact ⟨fun h c hc => of_decide_eq_true (h c hc), fun h c hc => decide_eq_true (h c hc)⟩
          rw [e2]
          exact decide_eq_decide.mpr ⟨fun q => q.2.2.2, fun q => ⟨h1, h2, h4, q⟩⟩
        rw [fin]
        simp only [g_is_name, den_is_name, runD, dD, dNil, dCons, dAnd, dOr, dNotT, dAndV, dOrV, dNotV, dIf, dTru, dCmpT, dSeq, dRet, dSet, dSetN, dIfS, dNx, dDrop, dOp, dNeg, dTup, dLst, dC, dK, dVar, okD, okN, frz, dCall, ofF, dAug, dPar, dApp, dChain, dListOf, dSlL, dRev,
  M.bind, M.pure, M.no, M.ne, dName, dUnit, dConsG, dTupG, gOr, gI, gS, gAdd, gSubI, gMul, gDiv, gMod, gPow, gIx, gLen, gAbs, gInt1, gSum, gAll, gAny, gMaxL, gMinL, gTupOf, g2I, gDm, gPart, gTru, gBool, gBoolO, gEq_pair, gEq_ints, gEq_sl1, gEq_sl2, opL, gEq_int, gEq_str, gEq_bl, gEq_non, gNone, gIn, gSign, gCat, gRep, gIsi,
  iLt, iLe, iGt, iGe, My.isNon, truD, tagD, seqD, lstD, rdlD, mutD, putL, tupD, vsD, rng1X, rng2X, enuX, zipX, seqX,
  Option.bind, Option.map, Option.bind_some, Option.map_some,
  List.map_cons, List.map_nil, List.length_cons, List.length_nil, List.nil_append, List.cons_append, List.replicate, List.getElem?_cons_zero, List.getElem?_cons_succ, List.set_cons_zero, List.set_cons_succ, List.append_nil,
  if_true, if_false, ite_true, ite_false, Nat.reduceAdd, Int.reduceToNat, Int.reducePow, Nat.reducePow, Int.reduceMul, Int.reduceAdd, Int.reduceSub, Int.reduceLT, Int.reduceLE, Nat.reduceMul, Int.cast_ofNat_Int, Nat.reduceSub, Nat.reduceLT, Nat.reduceLeDiff, ne_eq, reduceCtorEq, not_false_eq_true, not_true_eq_false, Int.reduceEq, Int.reduceNeg, Bool.false_eq_true, Bool.not_true, Bool.not_false, decide_true, decide_false, true_and, and_true, false_and, and_false, or_true, true_or, or_false, false_or, id_eq, Bool.true_eq_false, decide_eq_true_eq, Bool.not_eq_true', decide_eq_false_iff_not, Bool.not_not, blsD, List.all_cons, List.all_nil, List.any_cons, List.any_nil, Bool.and_self, Bool.and_true, Bool.or_false, dFor, dLc, wipeD, backD, isi_NoneType_bool, isi_NoneType_int, isi_NoneType_str, isi_NoneType_tuple, isi_NoneType_list, isi_NoneType_dict, isi_bool_bool, isi_bool_int, isi_bool_str, isi_bool_tuple, isi_bool_list, isi_bool_dict, isi_int_bool, isi_int_int, isi_int_str, isi_int_tuple, isi_int_list, isi_int_dict, isi_str_bool, isi_str_int, isi_str_str, isi_str_tuple, isi_str_list, isi_str_dict, isi_tuple_bool, isi_tuple_int, isi_tuple_str, isi_tuple_tuple, isi_tuple_list, isi_tuple_dict, isi_list_bool, isi_list_int, isi_list_str, isi_list_tuple, isi_list_list, isi_list_dict, isi_dict_bool, isi_dict_int, isi_dict_str, isi_dict_tuple, isi_dict_list, isi_dict_dict, dLcA, dLcX, k_MOST_LETTERS, k_TOLD, flatV, l1, l2, l3, it, L, zl, bm]
    · have l1 : (1 : Int) ≤ (w.length : Int) := by omega
      have l2 : ¬ (w.length : Int) ≤ 8 := by omega
      have r : decide (1 ≤ w.length ∧ w.length ≤ 8 ∧ w ∉ TOLDs ∧ ∀ c ∈ w.cps.toList, isLet c) = false := decide_eq_false fun q => h2 q.2.1
      rw [r]
      simp only [g_is_name, den_is_name, runD, dD, dNil, dCons, dAnd, dOr, dNotT, dAndV, dOrV, dNotV, dIf, dTru, dCmpT, dSeq, dRet, dSet, dSetN, dIfS, dNx, dDrop, dOp, dNeg, dTup, dLst, dC, dK, dVar, okD, okN, frz, dCall, ofF, dAug, dPar, dApp, dChain, dListOf, dSlL, dRev,
  M.bind, M.pure, M.no, M.ne, dName, dUnit, dConsG, dTupG, gOr, gI, gS, gAdd, gSubI, gMul, gDiv, gMod, gPow, gIx, gLen, gAbs, gInt1, gSum, gAll, gAny, gMaxL, gMinL, gTupOf, g2I, gDm, gPart, gTru, gBool, gBoolO, gEq_pair, gEq_ints, gEq_sl1, gEq_sl2, opL, gEq_int, gEq_str, gEq_bl, gEq_non, gNone, gIn, gSign, gCat, gRep, gIsi,
  iLt, iLe, iGt, iGe, My.isNon, truD, tagD, seqD, lstD, rdlD, mutD, putL, tupD, vsD, rng1X, rng2X, enuX, zipX, seqX,
  Option.bind, Option.map, Option.bind_some, Option.map_some,
  List.map_cons, List.map_nil, List.length_cons, List.length_nil, List.nil_append, List.cons_append, List.replicate, List.getElem?_cons_zero, List.getElem?_cons_succ, List.set_cons_zero, List.set_cons_succ, List.append_nil,
  if_true, if_false, ite_true, ite_false, Nat.reduceAdd, Int.reduceToNat, Int.reducePow, Nat.reducePow, Int.reduceMul, Int.reduceAdd, Int.reduceSub, Int.reduceLT, Int.reduceLE, Nat.reduceMul, Int.cast_ofNat_Int, Nat.reduceSub, Nat.reduceLT, Nat.reduceLeDiff, ne_eq, reduceCtorEq, not_false_eq_true, not_true_eq_false, Int.reduceEq, Int.reduceNeg, Bool.false_eq_true, Bool.not_true, Bool.not_false, decide_true, decide_false, true_and, and_true, false_and, and_false, or_true, true_or, or_false, false_or, id_eq, Bool.true_eq_false, decide_eq_true_eq, Bool.not_eq_true', decide_eq_false_iff_not, Bool.not_not, blsD, List.all_cons, List.all_nil, List.any_cons, List.any_nil, Bool.and_self, Bool.and_true, Bool.or_false, dFor, dLc, itL, wipeD, backD, isi_NoneType_bool, isi_NoneType_int, isi_NoneType_str, isi_NoneType_tuple, isi_NoneType_list, isi_NoneType_dict, isi_bool_bool, isi_bool_int, isi_bool_str, isi_bool_tuple, isi_bool_list, isi_bool_dict, isi_int_bool, isi_int_int, isi_int_str, isi_int_tuple, isi_int_list, isi_int_dict, isi_str_bool, isi_str_int, isi_str_str, isi_str_tuple, isi_str_list, isi_str_dict, isi_tuple_bool, isi_tuple_int, isi_tuple_str, isi_tuple_tuple, isi_tuple_list, isi_tuple_dict, isi_list_bool, isi_list_int, isi_list_str, isi_list_tuple, isi_list_list, isi_list_dict, isi_dict_bool, isi_dict_int, isi_dict_str, isi_dict_tuple, isi_dict_list, isi_dict_dict, k_MOST_LETTERS, l1, l2, l3]
  · have l1 : ¬ (1 : Int) ≤ (w.length : Int) := by omega
    have r : decide (1 ≤ w.length ∧ w.length ≤ 8 ∧ w ∉ TOLDs ∧ ∀ c ∈ w.cps.toList, isLet c) = false := decide_eq_false fun q => h1 q.1
    rw [r]
    simp only [g_is_name, den_is_name, runD, dD, dNil, dCons, dAnd, dOr, dNotT, dAndV, dOrV, dNotV, dIf, dTru, dCmpT, dSeq, dRet, dSet, dSetN, dIfS, dNx, dDrop, dOp, dNeg, dTup, dLst, dC, dK, dVar, okD, okN, frz, dCall, ofF, dAug, dPar, dApp, dChain, dListOf, dSlL, dRev,
  M.bind, M.pure, M.no, M.ne, dName, dUnit, dConsG, dTupG, gOr, gI, gS, gAdd, gSubI, gMul, gDiv, gMod, gPow, gIx, gLen, gAbs, gInt1, gSum, gAll, gAny, gMaxL, gMinL, gTupOf, g2I, gDm, gPart, gTru, gBool, gBoolO, gEq_pair, gEq_ints, gEq_sl1, gEq_sl2, opL, gEq_int, gEq_str, gEq_bl, gEq_non, gNone, gIn, gSign, gCat, gRep, gIsi,
  iLt, iLe, iGt, iGe, My.isNon, truD, tagD, seqD, lstD, rdlD, mutD, putL, tupD, vsD, rng1X, rng2X, enuX, zipX, seqX,
  Option.bind, Option.map, Option.bind_some, Option.map_some,
  List.map_cons, List.map_nil, List.length_cons, List.length_nil, List.nil_append, List.cons_append, List.replicate, List.getElem?_cons_zero, List.getElem?_cons_succ, List.set_cons_zero, List.set_cons_succ, List.append_nil,
  if_true, if_false, ite_true, ite_false, Nat.reduceAdd, Int.reduceToNat, Int.reducePow, Nat.reducePow, Int.reduceMul, Int.reduceAdd, Int.reduceSub, Int.reduceLT, Int.reduceLE, Nat.reduceMul, Int.cast_ofNat_Int, Nat.reduceSub, Nat.reduceLT, Nat.reduceLeDiff, ne_eq, reduceCtorEq, not_false_eq_true, not_true_eq_false, Int.reduceEq, Int.reduceNeg, Bool.false_eq_true, Bool.not_true, Bool.not_false, decide_true, decide_false, true_and, and_true, false_and, and_false, or_true, true_or, or_false, false_or, id_eq, Bool.true_eq_false, decide_eq_true_eq, Bool.not_eq_true', decide_eq_false_iff_not, Bool.not_not, blsD, List.all_cons, List.all_nil, List.any_cons, List.any_nil, Bool.and_self, Bool.and_true, Bool.or_false, dFor, dLc, itL, wipeD, backD, isi_NoneType_bool, isi_NoneType_int, isi_NoneType_str, isi_NoneType_tuple, isi_NoneType_list, isi_NoneType_dict, isi_bool_bool, isi_bool_int, isi_bool_str, isi_bool_tuple, isi_bool_list, isi_bool_dict, isi_int_bool, isi_int_int, isi_int_str, isi_int_tuple, isi_int_list, isi_int_dict, isi_str_bool, isi_str_int, isi_str_str, isi_str_tuple, isi_str_list, isi_str_dict, isi_tuple_bool, isi_tuple_int, isi_tuple_str, isi_tuple_tuple, isi_tuple_list, isi_tuple_dict, isi_list_bool, isi_list_int, isi_list_str, isi_list_tuple, isi_list_list, isi_list_dict, isi_dict_bool, isi_dict_int, isi_dict_str, isi_dict_tuple, isi_dict_list, isi_dict_dict, k_MOST_LETTERS, l1, l3]
theorem ok_is_name (T : Tx K mg Env.HallError Env.BadSign Env.BadText Env.BadName Env.BadNumber Env.BadRing Env.BadLoan Env.TooMany Env.NoDoor Env.BadChange Env.BadKept) : Okf P w K mg base 1 "is_name" ["word"] g_is_name := (raw_is_name T ).by eq_is_name
abbrev srun_of : Stmt := (top 20)
abbrev Nrun_of : List Str := ["text", "at", "signs", "end"]
theorem scrun_of : FnScope Nrun_of ["text", "at", "signs"] (defScope srun_of) := ⟨rfl, rfl, rfl, by decide +kernel, rfl, by decide +kernel, by decide +kernel⟩
noncomputable def wrun_of1c : M Bool :=
    (dAnd (dCmpT (gI iLt) (dVar 3) (okD (M.bind (dVar 0) gLen))) (dCmpT (gOr (gIn false) (gSign false)) (okD (dOp gIx (dVar 0) (dVar 3))) (dVar 2)))
noncomputable def wrun_of1b : M Fl :=
    (dSet 3 (dOp gAdd (dVar 3) (dC (.int 1))))
noncomputable def den_run_of : M Fl :=
    (dSeq (dSet 3 (dD (dVar 1)))
    (dSeq (dWhile wrun_of1c wrun_of1b)
    (dRet (dSlD (dVar 0) (M.bind (dVar 1) gPart) (M.bind (dVar 3) gPart)))))
theorem raw_run_of (T : Tx K mg Env.HallError Env.BadSign Env.BadText Env.BadName Env.BadNumber Env.BadRing Env.BadLoan Env.TooMany Env.NoDoor Env.BadChange Env.BadKept) : Okf P w K mg base 1 "run_of" ["text", "at", "signs"] (runD 4 3 den_run_of) := by
  have sc := scrun_of
  exact ok_has (N := Nrun_of) T.d_run_of sc rfl (by decide) fun f cdv A outer s H E hr => ⟨_, ((bd_cons (sd_set (i := 3) sc.nd rfl (by first | exact Or.inl rfl | exact Or.inr rfl) (ED.d (ed_var 1)))
    (bd_cons (sd_while (passes_of rfl) (td_w (wd_and (td_cmp cLt (ed_var 3) (DD.e (dd_b1 bLen (by rfl) T.n_len (by decide +kernel) (ed_var 0))) (nomark _)) (wd_and1 (td_cmp cIn (DD.e (dd_ix (ed_var 0) (ed_var 3) (fun _ _ => rfl))) (ed_var 2) rfl)))) (bd_one (sd_set (i := 3) sc.nd rfl (by first | exact Or.inl rfl | exact Or.inr rfl) (dd_add (ed_var 3) ed_int))))
    (bd_one (sd_ret (dd_sl (ed_var 0) (od_some (ed_var 1)) (od_some (ed_var 3))))))) : BD _ _ _ _ den_run_of)⟩
noncomputable def g_run_of : G := runD 4 3 den_run_of
theorem eq_run_of : ∀ ds S, g_run_of ds S ≠ .no → runD 4 3 den_run_of ds S = g_run_of ds S := fun _ _ _ => rfl
theorem run_loop {t sg : Str} {r : List Nat} (hr : ∀ c ∈ r.head?, c ∉ sg.cps.toList) (hz : t.length ≤ 1000000) (S : List Cell) (x1 : Slot) : ∀ (u : List Nat) (a : Int), Dc t a (u ++ r) → (∀ c ∈ u, c ∈ sg.cps.toList) →
    dWhile wrun_of1c wrun_of1b ⟨[.d (sD t), x1, .d (sD sg), .d (.v (.int a))], S⟩ = .ok .nx ⟨[.d (sD t), x1, .d (sD sg), .d (.v (.int (a + u.length)))], S⟩
  | [], a, hd, _ => by
    rw [dWhile_eq, show (a + (([] : List Nat).length : Int)) = a from Int.add_zero a]
    cases r with
    | nil =>
      have h := Dc.ge hd
      simp only [wrun_of1c, runD, dD, dNil, dCons, dAnd, dOr, dNotT, dAndV, dOrV, dNotV, dIf, dTru, dCmpT, dSeq, dRet, dSet, dSetN, dIfS, dNx, dDrop, dOp, dNeg, dTup, dLst, dC, dK, dVar, okD, okN, frz, dCall, ofF, dAug, dPar, dApp, dChain, dListOf, dSlL, dRev,
  M.bind, M.pure, M.no, M.ne, dName, dUnit, dConsG, dTupG, gOr, gI, gS, gAdd, gSubI, gMul, gDiv, gMod, gPow, gIx, gLen, gAbs, gInt1, gSum, gAll, gAny, gMaxL, gMinL, gTupOf, g2I, gDm, gPart, gTru, gBool, gBoolO, gEq_pair, gEq_ints, gEq_sl1, gEq_sl2, opL, gEq_int, gEq_str, gEq_bl, gEq_non, gNone, gIn, gSign, gCat, gRep, gIsi,
  iLt, iLe, iGt, iGe, My.isNon, truD, tagD, seqD, lstD, rdlD, mutD, putL, tupD, vsD, rng1X, rng2X, enuX, zipX, seqX,
  Option.bind, Option.map, Option.bind_some, Option.map_some,
  List.map_cons, List.map_nil, List.length_cons, List.length_nil, List.nil_append, List.cons_append, List.replicate, List.getElem?_cons_zero, List.getElem?_cons_succ, List.set_cons_zero, List.set_cons_succ, List.append_nil,
  if_true, if_false, ite_true, ite_false, Nat.reduceAdd, Int.reduceToNat, Int.reducePow, Nat.reducePow, Int.reduceMul, Int.reduceAdd, Int.reduceSub, Int.reduceLT, Int.reduceLE, Nat.reduceMul, Int.cast_ofNat_Int, Nat.reduceSub, Nat.reduceLT, Nat.reduceLeDiff, ne_eq, reduceCtorEq, not_false_eq_true, not_true_eq_false, Int.reduceEq, Int.reduceNeg, Bool.false_eq_true, Bool.not_true, Bool.not_false, decide_true, decide_false, true_and, and_true, false_and, and_false, or_true, true_or, or_false, false_or, id_eq, Bool.true_eq_false, decide_eq_true_eq, Bool.not_eq_true', decide_eq_false_iff_not, Bool.not_not, blsD, List.all_cons, List.all_nil, List.any_cons, List.any_nil, Bool.and_self, Bool.and_true, Bool.or_false, dFor, dLc, itL, wipeD, backD, isi_NoneType_bool, isi_NoneType_int, isi_NoneType_str, isi_NoneType_tuple, isi_NoneType_list, isi_NoneType_dict, isi_bool_bool, isi_bool_int, isi_bool_str, isi_bool_tuple, isi_bool_list, isi_bool_dict, isi_int_bool, isi_int_int, isi_int_str, isi_int_tuple, isi_int_list, isi_int_dict, isi_str_bool, isi_str_int, isi_str_str, isi_str_tuple, isi_str_list, isi_str_dict, isi_tuple_bool, isi_tuple_int, isi_tuple_str, isi_tuple_tuple, isi_tuple_list, isi_tuple_dict, isi_list_bool, isi_list_int, isi_list_str, isi_list_tuple, isi_list_list, isi_list_dict, isi_dict_bool, isi_dict_int, isi_dict_str, isi_dict_tuple, isi_dict_list, isi_dict_dict, h, hz]
    | cons c r =>
      have hd : Dc t a (c :: r) := hd
      have h1 := hd.lt
      have h2 := hd.at
      have m : (c ∈ sg.cps.toList) = False := eq_false (hr c rfl)
      simp only [wrun_of1c, runD, dD, dNil, dCons, dAnd, dOr, dNotT, dAndV, dOrV, dNotV, dIf, dTru, dCmpT, dSeq, dRet, dSet, dSetN, dIfS, dNx, dDrop, dOp, dNeg, dTup, dLst, dC, dK, dVar, okD, okN, frz, dCall, ofF, dAug, dPar, dApp, dChain, dListOf, dSlL, dRev,
  M.bind, M.pure, M.no, M.ne, dName, dUnit, dConsG, dTupG, gOr, gI, gS, gAdd, gSubI, gMul, gDiv, gMod, gPow, gIx, gLen, gAbs, gInt1, gSum, gAll, gAny, gMaxL, gMinL, gTupOf, g2I, gDm, gPart, gTru, gBool, gBoolO, gEq_pair, gEq_ints, gEq_sl1, gEq_sl2, opL, gEq_int, gEq_str, gEq_bl, gEq_non, gNone, gIn, gSign, gCat, gRep, gIsi,
  iLt, iLe, iGt, iGe, My.isNon, truD, tagD, seqD, lstD, rdlD, mutD, putL, tupD, vsD, rng1X, rng2X, enuX, zipX, seqX,
  Option.bind, Option.map, Option.bind_some, Option.map_some,
  List.map_cons, List.map_nil, List.length_cons, List.length_nil, List.nil_append, List.cons_append, List.replicate, List.getElem?_cons_zero, List.getElem?_cons_succ, List.set_cons_zero, List.set_cons_succ, List.append_nil,
  if_true, if_false, ite_true, ite_false, Nat.reduceAdd, Int.reduceToNat, Int.reducePow, Nat.reducePow, Int.reduceMul, Int.reduceAdd, Int.reduceSub, Int.reduceLT, Int.reduceLE, Nat.reduceMul, Int.cast_ofNat_Int, Nat.reduceSub, Nat.reduceLT, Nat.reduceLeDiff, ne_eq, reduceCtorEq, not_false_eq_true, not_true_eq_false, Int.reduceEq, Int.reduceNeg, Bool.false_eq_true, Bool.not_true, Bool.not_false, decide_true, decide_false, true_and, and_true, false_and, and_false, or_true, true_or, or_false, false_or, id_eq, Bool.true_eq_false, decide_eq_true_eq, Bool.not_eq_true', decide_eq_false_iff_not, Bool.not_not, blsD, List.all_cons, List.all_nil, List.any_cons, List.any_nil, Bool.and_self, Bool.and_true, Bool.or_false, dFor, dLc, itL, wipeD, backD, isi_NoneType_bool, isi_NoneType_int, isi_NoneType_str, isi_NoneType_tuple, isi_NoneType_list, isi_NoneType_dict, isi_bool_bool, isi_bool_int, isi_bool_str, isi_bool_tuple, isi_bool_list, isi_bool_dict, isi_int_bool, isi_int_int, isi_int_str, isi_int_tuple, isi_int_list, isi_int_dict, isi_str_bool, isi_str_int, isi_str_str, isi_str_tuple, isi_str_list, isi_str_dict, isi_tuple_bool, isi_tuple_int, isi_tuple_str, isi_tuple_tuple, isi_tuple_list, isi_tuple_dict, isi_list_bool, isi_list_int, isi_list_str, isi_list_tuple, isi_list_list, isi_list_dict, isi_dict_bool, isi_dict_int, isi_dict_str, isi_dict_tuple, isi_dict_list, isi_dict_dict, flatV, h1, h2, hz, m]
  | c :: u, a, hd, hu => by
    have hd : Dc t a (c :: (u ++ r)) := hd
    have h1 := hd.lt
    have h2 := hd.at
    have m : (c ∈ sg.cps.toList) = True := eq_true (hu c List.mem_cons_self)
    have e := run_loop hr hz S x1 u (a + 1) hd.next fun x hx => hu x (List.mem_cons_of_mem _ hx)
    have e2 : a + 1 + (u.length : Int) = a + ((c :: u).length : Int) := by
      rw [List.length_cons]
      omega
    rw [e2] at e
    rw [dWhile_eq]
    generalize ((c :: u).length : Int) = z at *
    simp only [wrun_of1c, wrun_of1b, runD, dD, dNil, dCons, dAnd, dOr, dNotT, dAndV, dOrV, dNotV, dIf, dTru, dCmpT, dSeq, dRet, dSet, dSetN, dIfS, dNx, dDrop, dOp, dNeg, dTup, dLst, dC, dK, dVar, okD, okN, frz, dCall, ofF, dAug, dPar, dApp, dChain, dListOf, dSlL, dRev,
  M.bind, M.pure, M.no, M.ne, dName, dUnit, dConsG, dTupG, gOr, gI, gS, gAdd, gSubI, gMul, gDiv, gMod, gPow, gIx, gLen, gAbs, gInt1, gSum, gAll, gAny, gMaxL, gMinL, gTupOf, g2I, gDm, gPart, gTru, gBool, gBoolO, gEq_pair, gEq_ints, gEq_sl1, gEq_sl2, opL, gEq_int, gEq_str, gEq_bl, gEq_non, gNone, gIn, gSign, gCat, gRep, gIsi,
  iLt, iLe, iGt, iGe, My.isNon, truD, tagD, seqD, lstD, rdlD, mutD, putL, tupD, vsD, rng1X, rng2X, enuX, zipX, seqX,
  Option.bind, Option.map, Option.bind_some, Option.map_some,
  List.map_cons, List.map_nil, List.length_cons, List.length_nil, List.nil_append, List.cons_append, List.replicate, List.getElem?_cons_zero, List.getElem?_cons_succ, List.set_cons_zero, List.set_cons_succ, List.append_nil,
  if_true, if_false, ite_true, ite_false, Nat.reduceAdd, Int.reduceToNat, Int.reducePow, Nat.reducePow, Int.reduceMul, Int.reduceAdd, Int.reduceSub, Int.reduceLT, Int.reduceLE, Nat.reduceMul, Int.cast_ofNat_Int, Nat.reduceSub, Nat.reduceLT, Nat.reduceLeDiff, ne_eq, reduceCtorEq, not_false_eq_true, not_true_eq_false, Int.reduceEq, Int.reduceNeg, Bool.false_eq_true, Bool.not_true, Bool.not_false, decide_true, decide_false, true_and, and_true, false_and, and_false, or_true, true_or, or_false, false_or, id_eq, Bool.true_eq_false, decide_eq_true_eq, Bool.not_eq_true', decide_eq_false_iff_not, Bool.not_not, blsD, List.all_cons, List.all_nil, List.any_cons, List.any_nil, Bool.and_self, Bool.and_true, Bool.or_false, dFor, dLc, itL, wipeD, backD, isi_NoneType_bool, isi_NoneType_int, isi_NoneType_str, isi_NoneType_tuple, isi_NoneType_list, isi_NoneType_dict, isi_bool_bool, isi_bool_int, isi_bool_str, isi_bool_tuple, isi_bool_list, isi_bool_dict, isi_int_bool, isi_int_int, isi_int_str, isi_int_tuple, isi_int_list, isi_int_dict, isi_str_bool, isi_str_int, isi_str_str, isi_str_tuple, isi_str_list, isi_str_dict, isi_tuple_bool, isi_tuple_int, isi_tuple_str, isi_tuple_tuple, isi_tuple_list, isi_tuple_dict, isi_list_bool, isi_list_int, isi_list_str, isi_list_tuple, isi_list_list, isi_list_dict, isi_dict_bool, isi_dict_int, isi_dict_str, isi_dict_tuple, isi_dict_list, isi_dict_dict, flatV, h1, h2, hz, m]
    exact e
theorem run_ok {t sg : Str} {u r : List Nat} {a : Int} (h : Dc t a (u ++ r)) (ha : a ≤ t.length) (hu : ∀ c ∈ u, c ∈ sg.cps.toList) (hr : ∀ c ∈ r.head?, c ∉ sg.cps.toList) (hz : t.length ≤ 1000000) (S : List Cell) : g_run_of [sD t, .v (.int a), sD sg] S = .ok (sD ⟨u.toArray⟩) S := by
  have e := run_loop hr hz S (.d (.v (.int a))) u a h hu
  have c := h.cut ha
  generalize (a + (u.length : Int)) = z at *
  simp only [g_run_of, den_run_of, runD, dD, dNil, dCons, dAnd, dOr, dNotT, dAndV, dOrV, dNotV, dIf, dTru, dCmpT, dSeq, dRet, dSet, dSetN, dIfS, dNx, dDrop, dOp, dNeg, dTup, dLst, dC, dK, dVar, okD, okN, frz, dCall, ofF, dAug, dPar, dApp, dChain, dListOf, dSlL, dRev,
  M.bind, M.pure, M.no, M.ne, dName, dUnit, dConsG, dTupG, gOr, gI, gS, gAdd, gSubI, gMul, gDiv, gMod, gPow, gIx, gLen, gAbs, gInt1, gSum, gAll, gAny, gMaxL, gMinL, gTupOf, g2I, gDm, gPart, gTru, gBool, gBoolO, gEq_pair, gEq_ints, gEq_sl1, gEq_sl2, opL, gEq_int, gEq_str, gEq_bl, gEq_non, gNone, gIn, gSign, gCat, gRep, gIsi,
  iLt, iLe, iGt, iGe, My.isNon, truD, tagD, seqD, lstD, rdlD, mutD, putL, tupD, vsD, rng1X, rng2X, enuX, zipX, seqX,
  Option.bind, Option.map, Option.bind_some, Option.map_some,
  List.map_cons, List.map_nil, List.length_cons, List.length_nil, List.nil_append, List.cons_append, List.replicate, List.getElem?_cons_zero, List.getElem?_cons_succ, List.set_cons_zero, List.set_cons_succ, List.append_nil,
  if_true, if_false, ite_true, ite_false, Nat.reduceAdd, Int.reduceToNat, Int.reducePow, Nat.reducePow, Int.reduceMul, Int.reduceAdd, Int.reduceSub, Int.reduceLT, Int.reduceLE, Nat.reduceMul, Int.cast_ofNat_Int, Nat.reduceSub, Nat.reduceLT, Nat.reduceLeDiff, ne_eq, reduceCtorEq, not_false_eq_true, not_true_eq_false, Int.reduceEq, Int.reduceNeg, Bool.false_eq_true, Bool.not_true, Bool.not_false, decide_true, decide_false, true_and, and_true, false_and, and_false, or_true, true_or, or_false, false_or, id_eq, Bool.true_eq_false, decide_eq_true_eq, Bool.not_eq_true', decide_eq_false_iff_not, Bool.not_not, blsD, List.all_cons, List.all_nil, List.any_cons, List.any_nil, Bool.and_self, Bool.and_true, Bool.or_false, dFor, dLc, itL, wipeD, backD, isi_NoneType_bool, isi_NoneType_int, isi_NoneType_str, isi_NoneType_tuple, isi_NoneType_list, isi_NoneType_dict, isi_bool_bool, isi_bool_int, isi_bool_str, isi_bool_tuple, isi_bool_list, isi_bool_dict, isi_int_bool, isi_int_int, isi_int_str, isi_int_tuple, isi_int_list, isi_int_dict, isi_str_bool, isi_str_int, isi_str_str, isi_str_tuple, isi_str_list, isi_str_dict, isi_tuple_bool, isi_tuple_int, isi_tuple_str, isi_tuple_tuple, isi_tuple_list, isi_tuple_dict, isi_list_bool, isi_list_int, isi_list_str, isi_list_tuple, isi_list_list, isi_list_dict, isi_dict_bool, isi_dict_int, isi_dict_str, isi_dict_tuple, isi_dict_list, isi_dict_dict, dSlD, e, hz, c]
theorem ok_run_of (T : Tx K mg Env.HallError Env.BadSign Env.BadText Env.BadName Env.BadNumber Env.BadRing Env.BadLoan Env.TooMany Env.NoDoor Env.BadChange Env.BadKept) : Okf P w K mg base 1 "run_of" ["text", "at", "signs"] g_run_of := (raw_run_of T ).by eq_run_of
theorem ok_X_BadLoan (T : Tx K mg Env.HallError Env.BadSign Env.BadText Env.BadName Env.BadNumber Env.BadRing Env.BadLoan Env.TooMany Env.NoDoor Env.BadChange Env.BadKept) : OkX P w K mg base "BadLoan" Env.BadLoan "word" := okx_of T.y_BadLoan ⟨rfl, rfl, rfl, by decide +kernel, rfl, by decide +kernel, by decide +kernel⟩ rfl (.inl rfl) (.inl rfl) (by decide) (by decide)
theorem ok_X_BadName (T : Tx K mg Env.HallError Env.BadSign Env.BadText Env.BadName Env.BadNumber Env.BadRing Env.BadLoan Env.TooMany Env.NoDoor Env.BadChange Env.BadKept) : OkX P w K mg base "BadName" Env.BadName "word" := okx_of T.y_BadName ⟨rfl, rfl, rfl, by decide +kernel, rfl, by decide +kernel, by decide +kernel⟩ rfl (.inl rfl) (.inl rfl) (by decide) (by decide)
theorem ok_X_BadNumber (T : Tx K mg Env.HallError Env.BadSign Env.BadText Env.BadName Env.BadNumber Env.BadRing Env.BadLoan Env.TooMany Env.NoDoor Env.BadChange Env.BadKept) : OkX P w K mg base "BadNumber" Env.BadNumber "word" := okx_of T.y_BadNumber ⟨rfl, rfl, rfl, by decide +kernel, rfl, by decide +kernel, by decide +kernel⟩ rfl (.inl rfl) (.inl rfl) (by decide) (by decide)
theorem ok_X_BadRing (T : Tx K mg Env.HallError Env.BadSign Env.BadText Env.BadName Env.BadNumber Env.BadRing Env.BadLoan Env.TooMany Env.NoDoor Env.BadChange Env.BadKept) : OkX P w K mg base "BadRing" Env.BadRing "word" := okx_of T.y_BadRing ⟨rfl, rfl, rfl, by decide +kernel, rfl, by decide +kernel, by decide +kernel⟩ rfl (.inl rfl) (.inl rfl) (by decide) (by decide)
theorem ok_X_BadSign (T : Tx K mg Env.HallError Env.BadSign Env.BadText Env.BadName Env.BadNumber Env.BadRing Env.BadLoan Env.TooMany Env.NoDoor Env.BadChange Env.BadKept) : OkX P w K mg base "BadSign" Env.BadSign "spot" := okx_of T.y_BadSign ⟨rfl, rfl, rfl, by decide +kernel, rfl, by decide +kernel, by decide +kernel⟩ rfl (.inl rfl) (.inl rfl) (by decide) (by decide)
theorem ok_X_BadText (T : Tx K mg Env.HallError Env.BadSign Env.BadText Env.BadName Env.BadNumber Env.BadRing Env.BadLoan Env.TooMany Env.NoDoor Env.BadChange Env.BadKept) : OkX P w K mg base "BadText" Env.BadText "spot" := okx_of T.y_BadText ⟨rfl, rfl, rfl, by decide +kernel, rfl, by decide +kernel, by decide +kernel⟩ rfl (.inl rfl) (.inl rfl) (by decide) (by decide)
abbrev slaw_due : Stmt := (top 32)
abbrev Nlaw_due : List Str := ["_law_text_here", "_law_runs_here", "_law_wrong", "_law_at", "_law_run"]
theorem sclaw_due : FnScope Nlaw_due ["_law_text_here"] (defScope slaw_due) := ⟨rfl, rfl, rfl, by decide +kernel, rfl, by decide +kernel, by decide +kernel⟩
noncomputable def claw_due1e : M D :=
    (dD (dVar 4))
noncomputable def claw_due2e : M D :=
    (dD (dVar 3))
noncomputable def claw_due2t : M Bool :=
    (dNotT (dTru (okD (dCall g_law_is_word (dCons (dD (dVar 4)) dNil)))))
noncomputable def den_law_due : M Fl :=
    (dSeq (dIfS (dCmpT (gI iGt) (okD (M.bind (dVar 0) gLen)) (dC (.int 6000))) (dRet (dD (dC (.int 0)))) dNx)
    (dSeq (dSet 1 (dCall g_law_runs (dCons (dD (dVar 0)) dNil)))
    (dSeq (dSetN 2 (dLcA (dD (dVar 1)) (dTupG 2 (dConsG (dName 3) (dConsG (dName 4) dUnit))) claw_due2t claw_due2e [3, 4]))
    (dRet (dD (dIf (dCmpT (gEq true) (dVar 2) (okN (dLst dNil))) (okD (dOp gIx (dVar 2) (dC (.int 0)))) (okN (dLcA (dD (dVar 1)) (dTupG 2 (dConsG (dName 3) (dConsG (dName 4) dUnit))) (M.pure true) claw_due1e [3, 4]))))))))
theorem raw_law_due (T : Tx K mg Env.HallError Env.BadSign Env.BadText Env.BadName Env.BadNumber Env.BadRing Env.BadLoan Env.TooMany Env.NoDoor Env.BadChange Env.BadKept) (h_F__law_is_word : Okf P w K mg base 1 "_law_is_word" ["_law_run"] g_law_is_word) (h_F__law_runs : Okf P w K mg base 1 "_law_runs" ["_law_text_here"] g_law_runs) : Okf P w K mg base 2 "_law_due" ["_law_text_here"] (runD 5 1 den_law_due) := by
  have sc := sclaw_due
  exact ok_has (N := Nlaw_due) T.d_law_due sc rfl (by decide) fun f cdv A outer s H E hr => ⟨_, ((bd_cons (sd_if (td_cmp cGt (DD.e (dd_b1 bLen (by rfl) T.n_len (by decide +kernel) (ed_var 0))) ed_int (nomark _)) (bd_one (sd_ret (ED.d ed_int))) bd_nil)
    (bd_cons (sd_set (i := 1) sc.nd rfl (by first | exact Or.inl rfl | exact Or.inr rfl) (dd_fn h_F__law_runs (hr.mono (by decide)) (by rfl) (pol_of (L2N.takes_of rfl rfl rfl rfl)) (ad_cons (ED.d (ed_var 0)) ad_nil)))
    (bd_cons (sd_setLcA (i := 2) (own := [("_law_at", 3), ("_law_run", 4)]) (W' := W0) rfl sc.nd rfl rfl (sw_true rfl rfl rfl (by decide +kernel)) (ED.d (ed_var 1)) (blkOk_by (N := Nlaw_due) (sc := defScope slaw_due) (by decide +kernel)) (fun _ _ _ _ _ => (gd_tup rfl (gds_cons (gd_name (i := 3) sc.nd rfl (by first | exact Or.inl rfl | exact Or.inr rfl)) (gds_cons (gd_name (i := 4) sc.nd rfl (by first | exact Or.inl rfl | exact Or.inr rfl)) gds_nil)))) (fun _ _ _ _ _ => (tsd_one (td_not (td_val (DD.e (dd_fn h_F__law_is_word (hr.mono (by decide)) (by rfl) pol0 (ad_cons (ED.d (ed_var 4)) ad_nil))))))) (fun _ _ _ _ _ => (ED.d (ed_var 3))))
    (bd_one (sd_ret (ED.d (ed_if (td_cmp (cNe hr.units) (ed_var 2) (EN.e (en_lst ad_nil)) (nomark _)) (DD.e (dd_ix (ed_var 2) ed_int (fun _ _ => rfl))) (EN.e (en_lcA (own := [("_law_at", 3), ("_law_run", 4)]) (W' := W0) rfl sc.nd (ED.d (ed_var 1)) (blkOk_by (N := Nlaw_due) (sc := defScope slaw_due) (by decide +kernel)) (fun _ _ _ _ _ => (gd_tup rfl (gds_cons (gd_name (i := 3) sc.nd rfl (by first | exact Or.inl rfl | exact Or.inr rfl)) (gds_cons (gd_name (i := 4) sc.nd rfl (by first | exact Or.inl rfl | exact Or.inr rfl)) gds_nil)))) (fun _ _ _ _ _ => tsd_nil) (fun _ _ _ _ _ => (ED.d (ed_var 4)))))))))))) : BD _ _ _ _ den_law_due)⟩
noncomputable def g_law_due : G := runD 5 1 den_law_due
theorem eq_law_due : ∀ ds S, g_law_due ds S ≠ .no → runD 5 1 den_law_due ds S = g_law_due ds S := fun _ _ _ => rfl

def badL (l : List (Int × Str)) : List (Int × Str) := l.filter fun p => !decide (wd p.2)
theorem badD_eq : ∀ l : List (Int × Str), badD l = (badL l).head?.map (·.1)
  | [] => rfl
  | (a, w) :: l => by
    unfold badD badL
    rw [List.filter_cons]
    by_cases h : wd w
    · rw [if_pos h, if_neg (by simp [h])]
      exact badD_eq l
    · rw [if_neg h, if_pos (by simp [h])]
      rfl
theorem rn_word {a : Int} {cs : List Nat} {l : List (Int × Str)} (h : Rn a cs l) (S : List Cell) (hz : cs.length ≤ 100000) : ∀ p ∈ l, g_law_is_word [sD p.2] S = .ok (.v (.bl (decide (wd p.2)))) S := by
  induction h with
  | nil => intro p hp; cases hp
  | bl _ _ ih => exact ih (by simp at hz; omega)
  | @letr a u r l hu h1 h2 _ ih =>
    intro p hp
    rw [List.length_append] at hz
    rcases List.mem_cons.mp hp with rfl | hp
    · exact isw_ok hu (r := r) (.inl ⟨h1, h2⟩) (by omega) S
    · exact ih (by omega) p hp
  | @fig a u r l hu h1 h2 _ ih =>
    intro p hp
    rw [List.length_append] at hz
    rcases List.mem_cons.mp hp with rfl | hp
    · exact isw_ok hu (r := r) (.inr (.inl ⟨h1, h2⟩)) (by omega) S
    · exact ih (by omega) p hp
  | @one a c r l hb h1 h2 _ ih =>
    intro p hp
    rcases List.mem_cons.mp hp with rfl | hp
    · exact isw_ok (u := [c]) (by simp) (r := r) (.inr (.inr ⟨c, rfl, h1, h2⟩)) (by simp) S
    · exact ih (by simp at hz; omega) p hp
theorem rn_len {a : Int} {cs : List Nat} {l : List (Int × Str)} (h : Rn a cs l) : l.length ≤ cs.length := by
  induction h with
  | nil => exact Nat.le_refl _
  | bl _ _ ih => simp; omega
  | @letr a u r l hu h1 h2 _ ih =>
    have := List.length_pos_iff.mpr hu
    rw [List.length_append, List.length_cons]
    omega
  | @fig a u r l hu h1 h2 _ ih =>
    have := List.length_pos_iff.mpr hu
    rw [List.length_append, List.length_cons]
    omega
  | one _ _ _ _ ih => simp; omega
theorem due_wrong (t : Str) (L : List D) (l : List (Int × Str)) (S : List Cell) (x2 : Slot) (r0 : List Slot) (hz : l.length ≤ 10000) (hw : ∀ p ∈ l, g_law_is_word [sD p.2] S = .ok (.v (.bl (decide (wd p.2)))) S) :
    itL (dTupG 2 (dConsG (dName 3) (dConsG (dName 4) dUnit))) claw_due2t claw_due2e [3, 4] r0 (l.map rD) [] ⟨[.d (sD t), .d (.lst L), x2, .no, .no], S⟩ = .ok ((badL l).map fun p => D.v (.int p.1)) ⟨[.d (sD t), .d (.lst L), x2, .no, .no], S⟩ := by
  refine itL_enc (enc := rD) (p := fun p => !decide (wd p.2)) (f := fun p => D.v (.int p.1)) l _ rfl rfl (by omega) fun p hp => ?_
  have w := hw p hp
  refine ⟨⟨[.d (sD t), .d (.lst L), x2, .d (.v (.int p.1)), .d (sD p.2)], S⟩, rfl, ⟨[.d (sD t), .d (.lst L), x2, .d (.v (.int p.1)), .d (sD p.2)], S⟩, ?_, rfl, fun _ => rfl, fun _ => ⟨⟨[.d (sD t), .d (.lst L), x2, .d (.v (.int p.1)), .d (sD p.2)], S⟩, rfl, rfl, rfl⟩⟩
  by_cases h : wd p.2
  · have h' := eq_true h
    simp only [h', decide_true] at w ⊢
    simp only [claw_due2t, runD, dD, dNil, dCons, dAnd, dOr, dNotT, dAndV, dOrV, dNotV, dIf, dTru, dCmpT, dSeq, dRet, dSet, dSetN, dIfS, dNx, dDrop, dOp, dNeg, dTup, dLst, dC, dK, dVar, okD, okN, frz, dCall, ofF, dAug, dPar, dApp, dChain, dListOf, dSlL, dRev,
  M.bind, M.pure, M.no, M.ne, dName, dUnit, dConsG, dTupG, gOr, gI, gS, gAdd, gSubI, gMul, gDiv, gMod, gPow, gIx, gLen, gAbs, gInt1, gSum, gAll, gAny, gMaxL, gMinL, gTupOf, g2I, gDm, gPart, gTru, gBool, gBoolO, gEq_pair, gEq_ints, gEq_sl1, gEq_sl2, opL, gEq_int, gEq_str, gEq_bl, gEq_non, gNone, gIn, gSign, gCat, gRep, gIsi,
  iLt, iLe, iGt, iGe, My.isNon, truD, tagD, seqD, lstD, rdlD, mutD, putL, tupD, vsD, rng1X, rng2X, enuX, zipX, seqX,
  Option.bind, Option.map, Option.bind_some, Option.map_some,
  List.map_cons, List.map_nil, List.length_cons, List.length_nil, List.nil_append, List.cons_append, List.replicate, List.getElem?_cons_zero, List.getElem?_cons_succ, List.set_cons_zero, List.set_cons_succ, List.append_nil,
  if_true, if_false, ite_true, ite_false, Nat.reduceAdd, Int.reduceToNat, Int.reducePow, Nat.reducePow, Int.reduceMul, Int.reduceAdd, Int.reduceSub, Int.reduceLT, Int.reduceLE, Nat.reduceMul, Int.cast_ofNat_Int, Nat.reduceSub, Nat.reduceLT, Nat.reduceLeDiff, ne_eq, reduceCtorEq, not_false_eq_true, not_true_eq_false, Int.reduceEq, Int.reduceNeg, Bool.false_eq_true, Bool.not_true, Bool.not_false, decide_true, decide_false, true_and, and_true, false_and, and_false, or_true, true_or, or_false, false_or, id_eq, Bool.true_eq_false, decide_eq_true_eq, Bool.not_eq_true', decide_eq_false_iff_not, Bool.not_not, blsD, List.all_cons, List.all_nil, List.any_cons, List.any_nil, Bool.and_self, Bool.and_true, Bool.or_false, dFor, dLc, itL, wipeD, backD, isi_NoneType_bool, isi_NoneType_int, isi_NoneType_str, isi_NoneType_tuple, isi_NoneType_list, isi_NoneType_dict, isi_bool_bool, isi_bool_int, isi_bool_str, isi_bool_tuple, isi_bool_list, isi_bool_dict, isi_int_bool, isi_int_int, isi_int_str, isi_int_tuple, isi_int_list, isi_int_dict, isi_str_bool, isi_str_int, isi_str_str, isi_str_tuple, isi_str_list, isi_str_dict, isi_tuple_bool, isi_tuple_int, isi_tuple_str, isi_tuple_tuple, isi_tuple_list, isi_tuple_dict, isi_list_bool, isi_list_int, isi_list_str, isi_list_tuple, isi_list_list, isi_list_dict, isi_dict_bool, isi_dict_int, isi_dict_str, isi_dict_tuple, isi_dict_list, isi_dict_dict, w]
  · have h' := eq_false h
    simp only [h', decide_false] at w ⊢
    simp only [claw_due2t, runD, dD, dNil, dCons, dAnd, dOr, dNotT, dAndV, dOrV, dNotV, dIf, dTru, dCmpT, dSeq, dRet, dSet, dSetN, dIfS, dNx, dDrop, dOp, dNeg, dTup, dLst, dC, dK, dVar, okD, okN, frz, dCall, ofF, dAug, dPar, dApp, dChain, dListOf, dSlL, dRev,
  M.bind, M.pure, M.no, M.ne, dName, dUnit, dConsG, dTupG, gOr, gI, gS, gAdd, gSubI, gMul, gDiv, gMod, gPow, gIx, gLen, gAbs, gInt1, gSum, gAll, gAny, gMaxL, gMinL, gTupOf, g2I, gDm, gPart, gTru, gBool, gBoolO, gEq_pair, gEq_ints, gEq_sl1, gEq_sl2, opL, gEq_int, gEq_str, gEq_bl, gEq_non, gNone, gIn, gSign, gCat, gRep, gIsi,
  iLt, iLe, iGt, iGe, My.isNon, truD, tagD, seqD, lstD, rdlD, mutD, putL, tupD, vsD, rng1X, rng2X, enuX, zipX, seqX,
  Option.bind, Option.map, Option.bind_some, Option.map_some,
  List.map_cons, List.map_nil, List.length_cons, List.length_nil, List.nil_append, List.cons_append, List.replicate, List.getElem?_cons_zero, List.getElem?_cons_succ, List.set_cons_zero, List.set_cons_succ, List.append_nil,
  if_true, if_false, ite_true, ite_false, Nat.reduceAdd, Int.reduceToNat, Int.reducePow, Nat.reducePow, Int.reduceMul, Int.reduceAdd, Int.reduceSub, Int.reduceLT, Int.reduceLE, Nat.reduceMul, Int.cast_ofNat_Int, Nat.reduceSub, Nat.reduceLT, Nat.reduceLeDiff, ne_eq, reduceCtorEq, not_false_eq_true, not_true_eq_false, Int.reduceEq, Int.reduceNeg, Bool.false_eq_true, Bool.not_true, Bool.not_false, decide_true, decide_false, true_and, and_true, false_and, and_false, or_true, true_or, or_false, false_or, id_eq, Bool.true_eq_false, decide_eq_true_eq, Bool.not_eq_true', decide_eq_false_iff_not, Bool.not_not, blsD, List.all_cons, List.all_nil, List.any_cons, List.any_nil, Bool.and_self, Bool.and_true, Bool.or_false, dFor, dLc, itL, wipeD, backD, isi_NoneType_bool, isi_NoneType_int, isi_NoneType_str, isi_NoneType_tuple, isi_NoneType_list, isi_NoneType_dict, isi_bool_bool, isi_bool_int, isi_bool_str, isi_bool_tuple, isi_bool_list, isi_bool_dict, isi_int_bool, isi_int_int, isi_int_str, isi_int_tuple, isi_int_list, isi_int_dict, isi_str_bool, isi_str_int, isi_str_str, isi_str_tuple, isi_str_list, isi_str_dict, isi_tuple_bool, isi_tuple_int, isi_tuple_str, isi_tuple_tuple, isi_tuple_list, isi_tuple_dict, isi_list_bool, isi_list_int, isi_list_str, isi_list_tuple, isi_list_list, isi_list_dict, isi_dict_bool, isi_dict_int, isi_dict_str, isi_dict_tuple, isi_dict_list, isi_dict_dict, w]
theorem due_all (t : Str) (L : List D) (l : List (Int × Str)) (S : List Cell) (x2 : Slot) (r0 : List Slot) (hz : l.length ≤ 10000) :
    itL (dTupG 2 (dConsG (dName 3) (dConsG (dName 4) dUnit))) (M.pure true) claw_due1e [3, 4] r0 (l.map rD) [] ⟨[.d (sD t), .d (.lst L), x2, .no, .no], S⟩ = .ok (l.map fun p => sD p.2) ⟨[.d (sD t), .d (.lst L), x2, .no, .no], S⟩ := by
  refine itL_all (enc := rD) (f := fun p => sD p.2) l _ rfl rfl (by omega) fun p hp => ?_
  exact ⟨⟨[.d (sD t), .d (.lst L), x2, .d (.v (.int p.1)), .d (sD p.2)], S⟩, rfl, ⟨[.d (sD t), .d (.lst L), x2, .d (.v (.int p.1)), .d (sD p.2)], S⟩, rfl, rfl, rfl⟩
def dueD (l : List (Int × Str)) : D := match badD l with
  | none => .lst (l.map fun p => sD p.2)
  | some q => .v (.int q)
theorem due_ok {t : Str} {l : List (Int × Str)} (h : Rn 0 t.cps.toList l) (hz : t.length ≤ 6000) (S : List Cell) : g_law_due [sD t] S = .ok (dueD l) S := by
  have hr := runs_ok h (by omega) S
  have hl := rn_len h
  rw [← t_len] at hl
  have e1 := fun x2 r0 => due_wrong t (l.map rD) l S x2 r0 (by omega) (rn_word h S (by rw [← t_len]; omega))
  have e2 := fun x2 r0 => due_all t (l.map rD) l S x2 r0 (by omega)
  have z : t.length ≤ 1000000 := by omega
  have l6 : ¬ ((6000 : Int) < (t.length : Int)) := by omega
  have bm : ((badL l).map fun p => D.v (.int p.1)) = ((badL l).map (·.1)).map I := by rw [List.map_map]; rfl
  have gi := fun c => gEq_ints (neg := true) (ns := (badL l).map (·.1)) (ms := []) (c := c)
  rw [← bm] at gi
  simp only [List.map_nil] at gi
  unfold dueD
  rw [badD_eq]
  cases hb : badL l with
  | nil =>
    rw [hb] at e1 gi
    simp only [List.map_nil] at e1 gi
    simp only [g_law_due, den_law_due, runD, dD, dNil, dCons, dAnd, dOr, dNotT, dAndV, dOrV, dNotV, dIf, dTru, dCmpT, dSeq, dRet, dSet, dSetN, dIfS, dNx, dDrop, dOp, dNeg, dTup, dLst, dC, dK, dVar, okD, okN, frz, dCall, ofF, dAug, dPar, dApp, dChain, dListOf, dSlL, dRev,
  M.bind, M.pure, M.no, M.ne, dName, dUnit, dConsG, dTupG, gOr, gI, gS, gAdd, gSubI, gMul, gDiv, gMod, gPow, gIx, gLen, gAbs, gInt1, gSum, gAll, gAny, gMaxL, gMinL, gTupOf, g2I, gDm, gPart, gTru, gBool, gBoolO, gEq_pair, gEq_ints, gEq_sl1, gEq_sl2, opL, gEq_int, gEq_str, gEq_bl, gEq_non, gNone, gIn, gSign, gCat, gRep, gIsi,
  iLt, iLe, iGt, iGe, My.isNon, truD, tagD, seqD, lstD, rdlD, mutD, putL, tupD, vsD, rng1X, rng2X, enuX, zipX, seqX,
  Option.bind, Option.map, Option.bind_some, Option.map_some,
  List.map_cons, List.map_nil, List.length_cons, List.length_nil, List.nil_append, List.cons_append, List.replicate, List.getElem?_cons_zero, List.getElem?_cons_succ, List.set_cons_zero, List.set_cons_succ, List.append_nil,
  if_true, if_false, ite_true, ite_false, Nat.reduceAdd, Int.reduceToNat, Int.reducePow, Nat.reducePow, Int.reduceMul, Int.reduceAdd, Int.reduceSub, Int.reduceLT, Int.reduceLE, Nat.reduceMul, Int.cast_ofNat_Int, Nat.reduceSub, Nat.reduceLT, Nat.reduceLeDiff, ne_eq, reduceCtorEq, not_false_eq_true, not_true_eq_false, Int.reduceEq, Int.reduceNeg, Bool.false_eq_true, Bool.not_true, Bool.not_false, decide_true, decide_false, true_and, and_true, false_and, and_false, or_true, true_or, or_false, false_or, id_eq, Bool.true_eq_false, decide_eq_true_eq, Bool.not_eq_true', decide_eq_false_iff_not, Bool.not_not, blsD, List.all_cons, List.all_nil, List.any_cons, List.any_nil, Bool.and_self, Bool.and_true, Bool.or_false, dFor, dLc, wipeD, backD, isi_NoneType_bool, isi_NoneType_int, isi_NoneType_str, isi_NoneType_tuple, isi_NoneType_list, isi_NoneType_dict, isi_bool_bool, isi_bool_int, isi_bool_str, isi_bool_tuple, isi_bool_list, isi_bool_dict, isi_int_bool, isi_int_int, isi_int_str, isi_int_tuple, isi_int_list, isi_int_dict, isi_str_bool, isi_str_int, isi_str_str, isi_str_tuple, isi_str_list, isi_str_dict, isi_tuple_bool, isi_tuple_int, isi_tuple_str, isi_tuple_tuple, isi_tuple_list, isi_tuple_dict, isi_list_bool, isi_list_int, isi_list_str, isi_list_tuple, isi_list_list, isi_list_dict, isi_dict_bool, isi_dict_int, isi_dict_str, isi_dict_tuple, isi_dict_list, isi_dict_dict, dSlD, dCatN, dLcA, dLcX, dForA, dForX, gStr1, gIsiS, tagS, dJoinS, dIsStr, strsO, gStrA, dRaiseF, dPut, hr, z, l6, e1, e2, gi, wipeD, backD, dLc]
    rfl
  | cons p r =>
    rw [hb] at e1 gi
    simp only [List.map_cons] at e1 gi
    have a0 := at0 (D.v (.int p.1)) (r.map fun p => D.v (.int p.1))
    simp only [g_law_due, den_law_due, runD, dD, dNil, dCons, dAnd, dOr, dNotT, dAndV, dOrV, dNotV, dIf, dTru, dCmpT, dSeq, dRet, dSet, dSetN, dIfS, dNx, dDrop, dOp, dNeg, dTup, dLst, dC, dK, dVar, okD, okN, frz, dCall, ofF, dAug, dPar, dApp, dChain, dListOf, dSlL, dRev,
  M.bind, M.pure, M.no, M.ne, dName, dUnit, dConsG, dTupG, gOr, gI, gS, gAdd, gSubI, gMul, gDiv, gMod, gPow, gIx, gLen, gAbs, gInt1, gSum, gAll, gAny, gMaxL, gMinL, gTupOf, g2I, gDm, gPart, gTru, gBool, gBoolO, gEq_pair, gEq_ints, gEq_sl1, gEq_sl2, opL, gEq_int, gEq_str, gEq_bl, gEq_non, gNone, gIn, gSign, gCat, gRep, gIsi,
  iLt, iLe, iGt, iGe, My.isNon, truD, tagD, seqD, lstD, rdlD, mutD, putL, tupD, vsD, rng1X, rng2X, enuX, zipX, seqX,
  Option.bind, Option.map, Option.bind_some, Option.map_some,
  List.map_cons, List.map_nil, List.length_cons, List.length_nil, List.nil_append, List.cons_append, List.replicate, List.getElem?_cons_zero, List.getElem?_cons_succ, List.set_cons_zero, List.set_cons_succ, List.append_nil,
  if_true, if_false, ite_true, ite_false, Nat.reduceAdd, Int.reduceToNat, Int.reducePow, Nat.reducePow, Int.reduceMul, Int.reduceAdd, Int.reduceSub, Int.reduceLT, Int.reduceLE, Nat.reduceMul, Int.cast_ofNat_Int, Nat.reduceSub, Nat.reduceLT, Nat.reduceLeDiff, ne_eq, reduceCtorEq, not_false_eq_true, not_true_eq_false, Int.reduceEq, Int.reduceNeg, Bool.false_eq_true, Bool.not_true, Bool.not_false, decide_true, decide_false, true_and, and_true, false_and, and_false, or_true, true_or, or_false, false_or, id_eq, Bool.true_eq_false, decide_eq_true_eq, Bool.not_eq_true', decide_eq_false_iff_not, Bool.not_not, blsD, List.all_cons, List.all_nil, List.any_cons, List.any_nil, Bool.and_self, Bool.and_true, Bool.or_false, dFor, dLc, wipeD, backD, isi_NoneType_bool, isi_NoneType_int, isi_NoneType_str, isi_NoneType_tuple, isi_NoneType_list, isi_NoneType_dict, isi_bool_bool, isi_bool_int, isi_bool_str, isi_bool_tuple, isi_bool_list, isi_bool_dict, isi_int_bool, isi_int_int, isi_int_str, isi_int_tuple, isi_int_list, isi_int_dict, isi_str_bool, isi_str_int, isi_str_str, isi_str_tuple, isi_str_list, isi_str_dict, isi_tuple_bool, isi_tuple_int, isi_tuple_str, isi_tuple_tuple, isi_tuple_list, isi_tuple_dict, isi_list_bool, isi_list_int, isi_list_str, isi_list_tuple, isi_list_list, isi_list_dict, isi_dict_bool, isi_dict_int, isi_dict_str, isi_dict_tuple, isi_dict_list, isi_dict_dict, dSlD, dCatN, dLcA, dLcX, dForA, dForX, gStr1, gIsiS, tagS, dJoinS, dIsStr, strsO, gStrA, dRaiseF, dPut, hr, z, l6, e1, e2, gi, wipeD, backD, dLc, a0]
    rfl
theorem due_long {t : Str} (h : ¬ t.length ≤ 6000) (hz : t.length ≤ 1000000) (S : List Cell) : g_law_due [sD t] S = .ok (.v (.int 0)) S := by
  have l6 : ((6000 : Int) < (t.length : Int)) := by omega
  simp only [g_law_due, den_law_due, runD, dD, dNil, dCons, dAnd, dOr, dNotT, dAndV, dOrV, dNotV, dIf, dTru, dCmpT, dSeq, dRet, dSet, dSetN, dIfS, dNx, dDrop, dOp, dNeg, dTup, dLst, dC, dK, dVar, okD, okN, frz, dCall, ofF, dAug, dPar, dApp, dChain, dListOf, dSlL, dRev,
  M.bind, M.pure, M.no, M.ne, dName, dUnit, dConsG, dTupG, gOr, gI, gS, gAdd, gSubI, gMul, gDiv, gMod, gPow, gIx, gLen, gAbs, gInt1, gSum, gAll, gAny, gMaxL, gMinL, gTupOf, g2I, gDm, gPart, gTru, gBool, gBoolO, gEq_pair, gEq_ints, gEq_sl1, gEq_sl2, opL, gEq_int, gEq_str, gEq_bl, gEq_non, gNone, gIn, gSign, gCat, gRep, gIsi,
  iLt, iLe, iGt, iGe, My.isNon, truD, tagD, seqD, lstD, rdlD, mutD, putL, tupD, vsD, rng1X, rng2X, enuX, zipX, seqX,
  Option.bind, Option.map, Option.bind_some, Option.map_some,
  List.map_cons, List.map_nil, List.length_cons, List.length_nil, List.nil_append, List.cons_append, List.replicate, List.getElem?_cons_zero, List.getElem?_cons_succ, List.set_cons_zero, List.set_cons_succ, List.append_nil,
  if_true, if_false, ite_true, ite_false, Nat.reduceAdd, Int.reduceToNat, Int.reducePow, Nat.reducePow, Int.reduceMul, Int.reduceAdd, Int.reduceSub, Int.reduceLT, Int.reduceLE, Nat.reduceMul, Int.cast_ofNat_Int, Nat.reduceSub, Nat.reduceLT, Nat.reduceLeDiff, ne_eq, reduceCtorEq, not_false_eq_true, not_true_eq_false, Int.reduceEq, Int.reduceNeg, Bool.false_eq_true, Bool.not_true, Bool.not_false, decide_true, decide_false, true_and, and_true, false_and, and_false, or_true, true_or, or_false, false_or, id_eq, Bool.true_eq_false, decide_eq_true_eq, Bool.not_eq_true', decide_eq_false_iff_not, Bool.not_not, blsD, List.all_cons, List.all_nil, List.any_cons, List.any_nil, Bool.and_self, Bool.and_true, Bool.or_false, dFor, dLc, itL, wipeD, backD, isi_NoneType_bool, isi_NoneType_int, isi_NoneType_str, isi_NoneType_tuple, isi_NoneType_list, isi_NoneType_dict, isi_bool_bool, isi_bool_int, isi_bool_str, isi_bool_tuple, isi_bool_list, isi_bool_dict, isi_int_bool, isi_int_int, isi_int_str, isi_int_tuple, isi_int_list, isi_int_dict, isi_str_bool, isi_str_int, isi_str_str, isi_str_tuple, isi_str_list, isi_str_dict, isi_tuple_bool, isi_tuple_int, isi_tuple_str, isi_tuple_tuple, isi_tuple_list, isi_tuple_dict, isi_list_bool, isi_list_int, isi_list_str, isi_list_tuple, isi_list_list, isi_list_dict, isi_dict_bool, isi_dict_int, isi_dict_str, isi_dict_tuple, isi_dict_list, isi_dict_dict, dSlD, dCatN, dLcA, dLcX, dForA, dForX, gStr1, gIsiS, tagS, dJoinS, dIsStr, strsO, gStrA, dRaiseF, dPut, hz, l6]
theorem ok_law_due (T : Tx K mg Env.HallError Env.BadSign Env.BadText Env.BadName Env.BadNumber Env.BadRing Env.BadLoan Env.TooMany Env.NoDoor Env.BadChange Env.BadKept) (h_F__law_is_word : Okf P w K mg base 1 "_law_is_word" ["_law_run"] g_law_is_word) (h_F__law_runs : Okf P w K mg base 1 "_law_runs" ["_law_text_here"] g_law_runs) : Okf P w K mg base 2 "_law_due" ["_law_text_here"] g_law_due := (raw_law_due T h_F__law_is_word h_F__law_runs).by eq_law_due
abbrev slaw_name_right : Stmt := (top 36)
abbrev Nlaw_name_right : List Str := ["_law_word", "_law_due_here", "_law_found", "_law_mark"]
theorem sclaw_name_right : FnScope Nlaw_name_right ["_law_word"] (defScope slaw_name_right) := ⟨rfl, rfl, rfl, by decide +kernel, rfl, by decide +kernel, by decide +kernel⟩
noncomputable def claw_name_right1e : M D :=
    (dD (dVar 3))
noncomputable def claw_name_right1t : M Bool :=
    (dCmpT (gOr (gIn true) (gSign true)) (dVar 3) (dC (.str "abcdefghijklmnopqrstuvwxyz")))
noncomputable def den_law_name_right : M Fl :=
    (dSeq (dSet 1 (dD (dAndV (okD (dChain (gI iLt) (gI iLt) (dC (.int 0)) (okD (M.bind (dVar 0) gLen)) (dC (.int 9)))) (okD (dOp (gEq false) (okN (dLcA (dD (dVar 0)) (dName 3) claw_name_right1t claw_name_right1e [3])) (okN (dLst dNil)))))))
    (dSeq (dSet 2 (dCall g_is_name (dCons (dD (dVar 0)) dNil)))
    (dRet (dD (dAndV (okD (M.bind (dD (dVar 2)) (gIsiS "bool"))) (okD (dOp (gEq false) (dVar 2) (dAndV (dVar 1) (okD (dOp (gOr (gIn true) (gSign true)) (dVar 0) (okD (dCall0 g_law_told_words))))))))))))
theorem raw_law_name_right (T : Tx K mg Env.HallError Env.BadSign Env.BadText Env.BadName Env.BadNumber Env.BadRing Env.BadLoan Env.TooMany Env.NoDoor Env.BadChange Env.BadKept) (h_F__law_told_words : Okf P w K mg base 1 "_law_told_words" [] g_law_told_words) (h_F_is_name : Okf P w K mg base 1 "is_name" ["word"] g_is_name) : Okf P w K mg base 2 "_law_name_right" ["_law_word"] (runD 4 1 den_law_name_right) := by
  have sc := sclaw_name_right
  exact ok_has (N := Nlaw_name_right) T.d_law_name_right sc rfl (by decide) fun f cdv A outer s H E hr => ⟨_, ((bd_cons (sd_set (i := 1) sc.nd rfl (by first | exact Or.inl rfl | exact Or.inr rfl) (ED.d (ed_and (DD.e (dd_chain cLt cLt ed_int (DD.e (dd_b1 bLen (by rfl) T.n_len (by decide +kernel) (ed_var 0))) ed_int)) (ed_one (DD.e (dd_cmp (cEq hr.units) (EN.e (en_lcA (own := [("_law_mark", 3)]) (W' := W0) rfl sc.nd (ED.d (ed_var 0)) (blkOk_by (N := Nlaw_name_right) (sc := defScope slaw_name_right) (by decide +kernel)) (fun _ _ _ _ _ => (gd_name (i := 3) sc.nd rfl (by first | exact Or.inl rfl | exact Or.inr rfl))) (fun _ _ _ _ _ => (tsd_one (td_cmp cNotIn (ed_var 3) ed_str rfl))) (fun _ _ _ _ _ => (ED.d (ed_var 3))))) (EN.e (en_lst ad_nil)) (nomark _)))))))
    (bd_cons (sd_set (i := 2) sc.nd rfl (by first | exact Or.inl rfl | exact Or.inr rfl) (dd_fn h_F_is_name (hr.mono (by decide)) (by rfl) (pol_of (L2N.takes_of rfl rfl rfl rfl)) (ad_cons (ED.d (ed_var 0)) ad_nil)))
    (bd_one (sd_ret (ED.d (ed_and (DD.e (dd_isiS (x := "bool") (cl := "bool") (by rfl) T.n_isinstance (by decide +kernel) (ED.d (ed_var 2)) (by rfl) T.n_bool (by decide +kernel))) (ed_one (DD.e (dd_cmp (cEq hr.units) (ed_var 2) (ed_and (ed_var 1) (ed_one (DD.e (dd_cmp cNotIn (ed_var 0) (DD.e (dd_fn0 h_F__law_told_words (hr.mono (by decide)) (by rfl))) rfl)))) (nomark _)))))))))) : BD _ _ _ _ den_law_name_right)⟩
noncomputable def g_law_name_right : G := runD 4 1 den_law_name_right
theorem eq_law_name_right : ∀ ds S, g_law_name_right ds S ≠ .no → runD 4 1 den_law_name_right ds S = g_law_name_right ds S := fun _ _ _ => rfl

theorem nright_ok {w : Str} (hz : w.length ≤ 100000) (S : List Cell) : g_law_name_right [sD w] S = .ok (.v (.bl true)) S := by
  have hl := t_len w
  have l3 : w.length ≤ 1000000 := by omega
  have nm := isname_all hz S
  have tw := tw_ok S
  have it := inV_Ss w TOLDs
  have vs : vsD (Ss TOLDs) = some (TOLDs.map V.str) := by rfl
  have fl : (TOLDs.map V.str).all flatV = true := by rfl
  have L : ∀ (x1 x2 : Slot) (r0 : List Slot), itL (dName 3) claw_name_right1t claw_name_right1e [3] r0 (sgnD w) [] ⟨[.d (sD w), x1, x2, .no], S⟩ = .ok ((w.cps.toList.filter fun c => !decide (isLet c)).map fun k => D.v (V.str ⟨#[k]⟩)) ⟨[.d (sD w), x1, x2, .no], S⟩ := fun x1 x2 r0 => by
    refine itL_enc (enc := fun k => D.v (V.str ⟨#[k]⟩)) (p := fun c => !decide (isLet c)) (f := fun k => D.v (V.str ⟨#[k]⟩)) w.cps.toList _ rfl rfl (by rw [← hl]; exact l3) fun c hc => ?_
    have m := propext (let_mem c)
    refine ⟨⟨[.d (sD w), x1, x2, .d (sD ⟨#[c]⟩)], S⟩, rfl, ⟨[.d (sD w), x1, x2, .d (sD ⟨#[c]⟩)], S⟩, ?_, rfl, fun _ => rfl, fun _ => ⟨⟨[.d (sD w), x1, x2, .d (sD ⟨#[c]⟩)], S⟩, rfl, rfl, rfl⟩⟩
    simp only [claw_name_right1t, runD, dD, dNil, dCons, dAnd, dOr, dNotT, dAndV, dOrV, dNotV, dIf, dTru, dCmpT, dSeq, dRet, dSet, dSetN, dIfS, dNx, dDrop, dOp, dNeg, dTup, dLst, dC, dK, dVar, okD, okN, frz, dCall, ofF, dAug, dPar, dApp, dChain, dListOf, dSlL, dRev,
  M.bind, M.pure, M.no, M.ne, dName, dUnit, dConsG, dTupG, gOr, gI, gS, gAdd, gSubI, gMul, gDiv, gMod, gPow, gIx, gLen, gAbs, gInt1, gSum, gAll, gAny, gMaxL, gMinL, gTupOf, g2I, gDm, gPart, gTru, gBool, gBoolO, gEq_pair, gEq_ints, gEq_sl1, gEq_sl2, opL, gEq_int, gEq_str, gEq_bl, gEq_non, gNone, gIn, gSign, gCat, gRep, gIsi,
  iLt, iLe, iGt, iGe, My.isNon, truD, tagD, seqD, lstD, rdlD, mutD, putL, tupD, vsD, rng1X, rng2X, enuX, zipX, seqX,
  Option.bind, Option.map, Option.bind_some, Option.map_some,
  List.map_cons, List.map_nil, List.length_cons, List.length_nil, List.nil_append, List.cons_append, List.replicate, List.getElem?_cons_zero, List.getElem?_cons_succ, List.set_cons_zero, List.set_cons_succ, List.append_nil,
  if_true, if_false, ite_true, ite_false, Nat.reduceAdd, Int.reduceToNat, Int.reducePow, Nat.reducePow, Int.reduceMul, Int.reduceAdd, Int.reduceSub, Int.reduceLT, Int.reduceLE, Nat.reduceMul, Int.cast_ofNat_Int, Nat.reduceSub, Nat.reduceLT, Nat.reduceLeDiff, ne_eq, reduceCtorEq, not_false_eq_true, not_true_eq_false, Int.reduceEq, Int.reduceNeg, Bool.false_eq_true, Bool.not_true, Bool.not_false, decide_true, decide_false, true_and, and_true, false_and, and_false, or_true, true_or, or_false, false_or, id_eq, Bool.true_eq_false, decide_eq_true_eq, Bool.not_eq_true', decide_eq_false_iff_not, Bool.not_not, blsD, List.all_cons, List.all_nil, List.any_cons, List.any_nil, Bool.and_self, Bool.and_true, Bool.or_false, dFor, dLc, itL, wipeD, backD, isi_NoneType_bool, isi_NoneType_int, isi_NoneType_str, isi_NoneType_tuple, isi_NoneType_list, isi_NoneType_dict, isi_bool_bool, isi_bool_int, isi_bool_str, isi_bool_tuple, isi_bool_list, isi_bool_dict, isi_int_bool, isi_int_int, isi_int_str, isi_int_tuple, isi_int_list, isi_int_dict, isi_str_bool, isi_str_int, isi_str_str, isi_str_tuple, isi_str_list, isi_str_dict, isi_tuple_bool, isi_tuple_int, isi_tuple_str, isi_tuple_tuple, isi_tuple_list, isi_tuple_dict, isi_list_bool, isi_list_int, isi_list_str, isi_list_tuple, isi_list_list, isi_list_dict, isi_dict_bool, isi_dict_int, isi_dict_str, isi_dict_tuple, isi_dict_list, isi_dict_dict, flatV, m]
  have gn := fun c => gEq_nil (neg := false) (c := c) (pydA_map (n := 9) (f := fun k : Nat => D.v (V.str ⟨#[k]⟩)) (fun _ => pyd_str) (w.cps.toList.filter fun c => !decide (isLet c)))
  have em : (((w.cps.toList.filter fun c => !decide (isLet c)).map fun k => D.v (V.str ⟨#[k]⟩)).isEmpty) = decide (∀ c ∈ w.cps.toList, isLet c) := by
    rw [Bool.eq_iff_iff, decide_eq_true_iff, List.isEmpty_iff, List.map_eq_nil_iff, List.filter_eq_nil_iff]
    exact ⟨fun h c hc => by simpa using h c hc, fun h c hc => by simpa using h c hc⟩
  simp only [em] at gn
  by_cases h0 : (0 : Int) < (w.length : Int)
  · by_cases h9 : (w.length : Int) < 9
    · have r1 : (1 ≤ w.length) = True := eq_true (by omega)
      have r2 : (w.length ≤ 8) = True := eq_true (by omega)
      simp only [r1, r2, true_and] at nm
      by_cases ha : ∀ c ∈ w.cps.toList, isLet c
      · have ha' := eq_true ha
        by_cases ht : w ∈ TOLDs
        · have ht' := eq_true ht
          simp only [ha', ht', not_true_eq_false, decide_true, decide_false, true_and, false_and] at nm gn it
          simp only [g_law_name_right, den_law_name_right, runD, dD, dNil, dCons, dAnd, dOr, dNotT, dAndV, dOrV, dNotV, dIf, dTru, dCmpT, dSeq, dRet, dSet, dSetN, dIfS, dNx, dDrop, dOp, dNeg, dTup, dLst, dC, dK, dVar, okD, okN, frz, dCall, ofF, dAug, dPar, dApp, dChain, dListOf, dSlL, dRev,
  M.bind, M.pure, M.no, M.ne, dName, dUnit, dConsG, dTupG, gOr, gI, gS, gAdd, gSubI, gMul, gDiv, gMod, gPow, gIx, gLen, gAbs, gInt1, gSum, gAll, gAny, gMaxL, gMinL, gTupOf, g2I, gDm, gPart, gTru, gBool, gBoolO, gEq_pair, gEq_ints, gEq_sl1, gEq_sl2, opL, gEq_int, gEq_str, gEq_bl, gEq_non, gNone, gIn, gSign, gCat, gRep, gIsi,
  iLt, iLe, iGt, iGe, My.isNon, truD, tagD, seqD, lstD, rdlD, mutD, putL, tupD, vsD, rng1X, rng2X, enuX, zipX, seqX,
  Option.bind, Option.map, Option.bind_some, Option.map_some,
  List.map_cons, List.map_nil, List.length_cons, List.length_nil, List.nil_append, List.cons_append, List.replicate, List.getElem?_cons_zero, List.getElem?_cons_succ, List.set_cons_zero, List.set_cons_succ, List.append_nil,
  if_true, if_false, ite_true, ite_false, Nat.reduceAdd, Int.reduceToNat, Int.reducePow, Nat.reducePow, Int.reduceMul, Int.reduceAdd, Int.reduceSub, Int.reduceLT, Int.reduceLE, Nat.reduceMul, Int.cast_ofNat_Int, Nat.reduceSub, Nat.reduceLT, Nat.reduceLeDiff, ne_eq, reduceCtorEq, not_false_eq_true, not_true_eq_false, Int.reduceEq, Int.reduceNeg, Bool.false_eq_true, Bool.not_true, Bool.not_false, decide_true, decide_false, true_and, and_true, false_and, and_false, or_true, true_or, or_false, false_or, id_eq, Bool.true_eq_false, decide_eq_true_eq, Bool.not_eq_true', decide_eq_false_iff_not, Bool.not_not, blsD, List.all_cons, List.all_nil, List.any_cons, List.any_nil, Bool.and_self, Bool.and_true, Bool.or_false, dFor, dLc, wipeD, backD, isi_NoneType_bool, isi_NoneType_int, isi_NoneType_str, isi_NoneType_tuple, isi_NoneType_list, isi_NoneType_dict, isi_bool_bool, isi_bool_int, isi_bool_str, isi_bool_tuple, isi_bool_list, isi_bool_dict, isi_int_bool, isi_int_int, isi_int_str, isi_int_tuple, isi_int_list, isi_int_dict, isi_str_bool, isi_str_int, isi_str_str, isi_str_tuple, isi_str_list, isi_str_dict, isi_tuple_bool, isi_tuple_int, isi_tuple_str, isi_tuple_tuple, isi_tuple_list, isi_tuple_dict, isi_list_bool, isi_list_int, isi_list_str, isi_list_tuple, isi_list_list, isi_list_dict, isi_dict_bool, isi_dict_int, isi_dict_str, isi_dict_tuple, isi_dict_list, isi_dict_dict, dSlD, dCatN, dLcA, dLcX, dForA, dForX, gStr1, gIsiS, tagS, dJoinS, dIsStr, strsO, gStrA, dRaiseF, dPut, dLc, seqX, wipeD, backD, flatV, dCall0, l3, h0, h9, L, gn, nm, tw, vs, fl, it]
        · have ht' := eq_false ht
          simp only [ha', ht', not_false_eq_true, decide_true, decide_false, true_and, and_true] at nm gn it
          simp only [g_law_name_right, den_law_name_right, runD, dD, dNil, dCons, dAnd, dOr, dNotT, dAndV, dOrV, dNotV, dIf, dTru, dCmpT, dSeq, dRet, dSet, dSetN, dIfS, dNx, dDrop, dOp, dNeg, dTup, dLst, dC, dK, dVar, okD, okN, frz, dCall, ofF, dAug, dPar, dApp, dChain, dListOf, dSlL, dRev,
  M.bind, M.pure, M.no, M.ne, dName, dUnit, dConsG, dTupG, gOr, gI, gS, gAdd, gSubI, gMul, gDiv, gMod, gPow, gIx, gLen, gAbs, gInt1, gSum, gAll, gAny, gMaxL, gMinL, gTupOf, g2I, gDm, gPart, gTru, gBool, gBoolO, gEq_pair, gEq_ints, gEq_sl1, gEq_sl2, opL, gEq_int, gEq_str, gEq_bl, gEq_non, gNone, gIn, gSign, gCat, gRep, gIsi,
  iLt, iLe, iGt, iGe, My.isNon, truD, tagD, seqD, lstD, rdlD, mutD, putL, tupD, vsD, rng1X, rng2X, enuX, zipX, seqX,
  Option.bind, Option.map, Option.bind_some, Option.map_some,
  List.map_cons, List.map_nil, List.length_cons, List.length_nil, List.nil_append, List.cons_append, List.replicate, List.getElem?_cons_zero, List.getElem?_cons_succ, List.set_cons_zero, List.set_cons_succ, List.append_nil,
  if_true, if_false, ite_true, ite_false, Nat.reduceAdd, Int.reduceToNat, Int.reducePow, Nat.reducePow, Int.reduceMul, Int.reduceAdd, Int.reduceSub, Int.reduceLT, Int.reduceLE, Nat.reduceMul, Int.cast_ofNat_Int, Nat.reduceSub, Nat.reduceLT, Nat.reduceLeDiff, ne_eq, reduceCtorEq, not_false_eq_true, not_true_eq_false, Int.reduceEq, Int.reduceNeg, Bool.false_eq_true, Bool.not_true, Bool.not_false, decide_true, decide_false, true_and, and_true, false_and, and_false, or_true, true_or, or_false, false_or, id_eq, Bool.true_eq_false, decide_eq_true_eq, Bool.not_eq_true', decide_eq_false_iff_not, Bool.not_not, blsD, List.all_cons, List.all_nil, List.any_cons, List.any_nil, Bool.and_self, Bool.and_true, Bool.or_false, dFor, dLc, wipeD, backD, isi_NoneType_bool, isi_NoneType_int, isi_NoneType_str, isi_NoneType_tuple, isi_NoneType_list, isi_NoneType_dict, isi_bool_bool, isi_bool_int, isi_bool_str, isi_bool_tuple, isi_bool_list, isi_bool_dict, isi_int_bool, isi_int_int, isi_int_str, isi_int_tuple, isi_int_list, isi_int_dict, isi_str_bool, isi_str_int, isi_str_str, isi_str_tuple, isi_str_list, isi_str_dict, isi_tuple_bool, isi_tuple_int, isi_tuple_str, isi_tuple_tuple, isi_tuple_list, isi_tuple_dict, isi_list_bool, isi_list_int, isi_list_str, isi_list_tuple, isi_list_list, isi_list_dict, isi_dict_bool, isi_dict_int, isi_dict_str, isi_dict_tuple, isi_dict_list, isi_dict_dict, dSlD, dCatN, dLcA, dLcX, dForA, dForX, gStr1, gIsiS, tagS, dJoinS, dIsStr, strsO, gStrA, dRaiseF, dPut, dLc, seqX, wipeD, backD, flatV, dCall0, l3, h0, h9, L, gn, nm, tw, vs, fl, it]
      · have ha' := eq_false ha
        simp only [ha', and_false, decide_false] at nm gn
        simp only [g_law_name_right, den_law_name_right, runD, dD, dNil, dCons, dAnd, dOr, dNotT, dAndV, dOrV, dNotV, dIf, dTru, dCmpT, dSeq, dRet, dSet, dSetN, dIfS, dNx, dDrop, dOp, dNeg, dTup, dLst, dC, dK, dVar, okD, okN, frz, dCall, ofF, dAug, dPar, dApp, dChain, dListOf, dSlL, dRev,
  M.bind, M.pure, M.no, M.ne, dName, dUnit, dConsG, dTupG, gOr, gI, gS, gAdd, gSubI, gMul, gDiv, gMod, gPow, gIx, gLen, gAbs, gInt1, gSum, gAll, gAny, gMaxL, gMinL, gTupOf, g2I, gDm, gPart, gTru, gBool, gBoolO, gEq_pair, gEq_ints, gEq_sl1, gEq_sl2, opL, gEq_int, gEq_str, gEq_bl, gEq_non, gNone, gIn, gSign, gCat, gRep, gIsi,
  iLt, iLe, iGt, iGe, My.isNon, truD, tagD, seqD, lstD, rdlD, mutD, putL, tupD, vsD, rng1X, rng2X, enuX, zipX, seqX,
  Option.bind, Option.map, Option.bind_some, Option.map_some,
  List.map_cons, List.map_nil, List.length_cons, List.length_nil, List.nil_append, List.cons_append, List.replicate, List.getElem?_cons_zero, List.getElem?_cons_succ, List.set_cons_zero, List.set_cons_succ, List.append_nil,
  if_true, if_false, ite_true, ite_false, Nat.reduceAdd, Int.reduceToNat, Int.reducePow, Nat.reducePow, Int.reduceMul, Int.reduceAdd, Int.reduceSub, Int.reduceLT, Int.reduceLE, Nat.reduceMul, Int.cast_ofNat_Int, Nat.reduceSub, Nat.reduceLT, Nat.reduceLeDiff, ne_eq, reduceCtorEq, not_false_eq_true, not_true_eq_false, Int.reduceEq, Int.reduceNeg, Bool.false_eq_true, Bool.not_true, Bool.not_false, decide_true, decide_false, true_and, and_true, false_and, and_false, or_true, true_or, or_false, false_or, id_eq, Bool.true_eq_false, decide_eq_true_eq, Bool.not_eq_true', decide_eq_false_iff_not, Bool.not_not, blsD, List.all_cons, List.all_nil, List.any_cons, List.any_nil, Bool.and_self, Bool.and_true, Bool.or_false, dFor, dLc, wipeD, backD, isi_NoneType_bool, isi_NoneType_int, isi_NoneType_str, isi_NoneType_tuple, isi_NoneType_list, isi_NoneType_dict, isi_bool_bool, isi_bool_int, isi_bool_str, isi_bool_tuple, isi_bool_list, isi_bool_dict, isi_int_bool, isi_int_int, isi_int_str, isi_int_tuple, isi_int_list, isi_int_dict, isi_str_bool, isi_str_int, isi_str_str, isi_str_tuple, isi_str_list, isi_str_dict, isi_tuple_bool, isi_tuple_int, isi_tuple_str, isi_tuple_tuple, isi_tuple_list, isi_tuple_dict, isi_list_bool, isi_list_int, isi_list_str, isi_list_tuple, isi_list_list, isi_list_dict, isi_dict_bool, isi_dict_int, isi_dict_str, isi_dict_tuple, isi_dict_list, isi_dict_dict, dSlD, dCatN, dLcA, dLcX, dForA, dForX, gStr1, gIsiS, tagS, dJoinS, dIsStr, strsO, gStrA, dRaiseF, dPut, dLc, seqX, wipeD, backD, flatV, l3, h0, h9, L, gn, nm]
    · have r2 : (w.length ≤ 8) = False := eq_false (by omega)
      simp only [r2, false_and, and_false, decide_false] at nm
      simp only [g_law_name_right, den_law_name_right, runD, dD, dNil, dCons, dAnd, dOr, dNotT, dAndV, dOrV, dNotV, dIf, dTru, dCmpT, dSeq, dRet, dSet, dSetN, dIfS, dNx, dDrop, dOp, dNeg, dTup, dLst, dC, dK, dVar, okD, okN, frz, dCall, ofF, dAug, dPar, dApp, dChain, dListOf, dSlL, dRev,
  M.bind, M.pure, M.no, M.ne, dName, dUnit, dConsG, dTupG, gOr, gI, gS, gAdd, gSubI, gMul, gDiv, gMod, gPow, gIx, gLen, gAbs, gInt1, gSum, gAll, gAny, gMaxL, gMinL, gTupOf, g2I, gDm, gPart, gTru, gBool, gBoolO, gEq_pair, gEq_ints, gEq_sl1, gEq_sl2, opL, gEq_int, gEq_str, gEq_bl, gEq_non, gNone, gIn, gSign, gCat, gRep, gIsi,
  iLt, iLe, iGt, iGe, My.isNon, truD, tagD, seqD, lstD, rdlD, mutD, putL, tupD, vsD, rng1X, rng2X, enuX, zipX, seqX,
  Option.bind, Option.map, Option.bind_some, Option.map_some,
  List.map_cons, List.map_nil, List.length_cons, List.length_nil, List.nil_append, List.cons_append, List.replicate, List.getElem?_cons_zero, List.getElem?_cons_succ, List.set_cons_zero, List.set_cons_succ, List.append_nil,
  if_true, if_false, ite_true, ite_false, Nat.reduceAdd, Int.reduceToNat, Int.reducePow, Nat.reducePow, Int.reduceMul, Int.reduceAdd, Int.reduceSub, Int.reduceLT, Int.reduceLE, Nat.reduceMul, Int.cast_ofNat_Int, Nat.reduceSub, Nat.reduceLT, Nat.reduceLeDiff, ne_eq, reduceCtorEq, not_false_eq_true, not_true_eq_false, Int.reduceEq, Int.reduceNeg, Bool.false_eq_true, Bool.not_true, Bool.not_false, decide_true, decide_false, true_and, and_true, false_and, and_false, or_true, true_or, or_false, false_or, id_eq, Bool.true_eq_false, decide_eq_true_eq, Bool.not_eq_true', decide_eq_false_iff_not, Bool.not_not, blsD, List.all_cons, List.all_nil, List.any_cons, List.any_nil, Bool.and_self, Bool.and_true, Bool.or_false, dFor, dLc, wipeD, backD, isi_NoneType_bool, isi_NoneType_int, isi_NoneType_str, isi_NoneType_tuple, isi_NoneType_list, isi_NoneType_dict, isi_bool_bool, isi_bool_int, isi_bool_str, isi_bool_tuple, isi_bool_list, isi_bool_dict, isi_int_bool, isi_int_int, isi_int_str, isi_int_tuple, isi_int_list, isi_int_dict, isi_str_bool, isi_str_int, isi_str_str, isi_str_tuple, isi_str_list, isi_str_dict, isi_tuple_bool, isi_tuple_int, isi_tuple_str, isi_tuple_tuple, isi_tuple_list, isi_tuple_dict, isi_list_bool, isi_list_int, isi_list_str, isi_list_tuple, isi_list_list, isi_list_dict, isi_dict_bool, isi_dict_int, isi_dict_str, isi_dict_tuple, isi_dict_list, isi_dict_dict, dSlD, dCatN, dLcA, dLcX, dForA, dForX, gStr1, gIsiS, tagS, dJoinS, dIsStr, strsO, gStrA, dRaiseF, dPut, l3, h0, h9, nm]
  · have r1 : (1 ≤ w.length) = False := eq_false (by omega)
    simp only [r1, false_and, decide_false] at nm
    simp only [g_law_name_right, den_law_name_right, runD, dD, dNil, dCons, dAnd, dOr, dNotT, dAndV, dOrV, dNotV, dIf, dTru, dCmpT, dSeq, dRet, dSet, dSetN, dIfS, dNx, dDrop, dOp, dNeg, dTup, dLst, dC, dK, dVar, okD, okN, frz, dCall, ofF, dAug, dPar, dApp, dChain, dListOf, dSlL, dRev,
  M.bind, M.pure, M.no, M.ne, dName, dUnit, dConsG, dTupG, gOr, gI, gS, gAdd, gSubI, gMul, gDiv, gMod, gPow, gIx, gLen, gAbs, gInt1, gSum, gAll, gAny, gMaxL, gMinL, gTupOf, g2I, gDm, gPart, gTru, gBool, gBoolO, gEq_pair, gEq_ints, gEq_sl1, gEq_sl2, opL, gEq_int, gEq_str, gEq_bl, gEq_non, gNone, gIn, gSign, gCat, gRep, gIsi,
  iLt, iLe, iGt, iGe, My.isNon, truD, tagD, seqD, lstD, rdlD, mutD, putL, tupD, vsD, rng1X, rng2X, enuX, zipX, seqX,
  Option.bind, Option.map, Option.bind_some, Option.map_some,
  List.map_cons, List.map_nil, List.length_cons, List.length_nil, List.nil_append, List.cons_append, List.replicate, List.getElem?_cons_zero, List.getElem?_cons_succ, List.set_cons_zero, List.set_cons_succ, List.append_nil,
  if_true, if_false, ite_true, ite_false, Nat.reduceAdd, Int.reduceToNat, Int.reducePow, Nat.reducePow, Int.reduceMul, Int.reduceAdd, Int.reduceSub, Int.reduceLT, Int.reduceLE, Nat.reduceMul, Int.cast_ofNat_Int, Nat.reduceSub, Nat.reduceLT, Nat.reduceLeDiff, ne_eq, reduceCtorEq, not_false_eq_true, not_true_eq_false, Int.reduceEq, Int.reduceNeg, Bool.false_eq_true, Bool.not_true, Bool.not_false, decide_true, decide_false, true_and, and_true, false_and, and_false, or_true, true_or, or_false, false_or, id_eq, Bool.true_eq_false, decide_eq_true_eq, Bool.not_eq_true', decide_eq_false_iff_not, Bool.not_not, blsD, List.all_cons, List.all_nil, List.any_cons, List.any_nil, Bool.and_self, Bool.and_true, Bool.or_false, dFor, dLc, wipeD, backD, isi_NoneType_bool, isi_NoneType_int, isi_NoneType_str, isi_NoneType_tuple, isi_NoneType_list, isi_NoneType_dict, isi_bool_bool, isi_bool_int, isi_bool_str, isi_bool_tuple, isi_bool_list, isi_bool_dict, isi_int_bool, isi_int_int, isi_int_str, isi_int_tuple, isi_int_list, isi_int_dict, isi_str_bool, isi_str_int, isi_str_str, isi_str_tuple, isi_str_list, isi_str_dict, isi_tuple_bool, isi_tuple_int, isi_tuple_str, isi_tuple_tuple, isi_tuple_list, isi_tuple_dict, isi_list_bool, isi_list_int, isi_list_str, isi_list_tuple, isi_list_list, isi_list_dict, isi_dict_bool, isi_dict_int, isi_dict_str, isi_dict_tuple, isi_dict_list, isi_dict_dict, dSlD, dCatN, dLcA, dLcX, dForA, dForX, gStr1, gIsiS, tagS, dJoinS, dIsStr, strsO, gStrA, dRaiseF, dPut, l3, h0, nm]
theorem ok_law_name_right (T : Tx K mg Env.HallError Env.BadSign Env.BadText Env.BadName Env.BadNumber Env.BadRing Env.BadLoan Env.TooMany Env.NoDoor Env.BadChange Env.BadKept) (h_F__law_told_words : Okf P w K mg base 1 "_law_told_words" [] g_law_told_words) (h_F_is_name : Okf P w K mg base 1 "is_name" ["word"] g_is_name) : Okf P w K mg base 2 "_law_name_right" ["_law_word"] g_law_name_right := (raw_law_name_right T h_F__law_told_words h_F_is_name).by eq_law_name_right
abbrev slaw_piece : Stmt := (top 27)
abbrev Nlaw_piece : List Str := ["_law_cell", "_law_more", "_law_kind", "_law_letters", "_law_size", "_law_k"]
theorem sclaw_piece : FnScope Nlaw_piece ["_law_cell"] (defScope slaw_piece) := ⟨rfl, rfl, rfl, by decide +kernel, rfl, by decide +kernel, by decide +kernel⟩
noncomputable def claw_piece1e : M D :=
    (M.bind (okD (dOp gMod (okD (dOp gAdd (okD (dOp gDiv (dVar 1) (dC (.int 36)))) (okD (dOp gMul (dVar 5) (okD (dOp gMod (okD (dOp gDiv (dVar 1) (dC (.int 360)))) (dC (.int 10)))))))) (dC (.int 10)))) gStrA)
noncomputable def claw_piece2e : M D :=
    (dOp gIx (dVar 3) (okD (dOp gMod (okD (dOp gAdd (okD (dOp gDiv (dVar 1) (dC (.int 5)))) (okD (dOp gMul (dVar 5) (okD (dOp gAdd (dC (.int 1)) (okD (dOp gMod (okD (dOp gDiv (dVar 1) (dC (.int 130)))) (dC (.int 25)))))))))) (dC (.int 26)))))
noncomputable def den_law_piece : M Fl :=
    (dSeq (dSet 1 (dOp gDiv (dVar 0) (dC (.int 5))))
    (dSeq (dSet 2 (dOp gMod (dVar 0) (dC (.int 5))))
    (dSeq (dSet 3 (dD (dC (.str "abcdefghijklmnopqrstuvwxyz"))))
    (dSeq (dIfS (dCmpT (gEq false) (dVar 2) (dC (.int 0))) (dRet (dOp gIx (okD (dCall0 g_law_told_words)) (okD (dOp gMod (dVar 1) (dC (.int 31)))))) dNx)
    (dSeq (dIfS (dCmpT (gEq false) (dVar 2) (dC (.int 1))) (dSeq (dSet 4 (dOp gIx (okN (dLst (dCons (dD (dC (.int 1))) (dCons (dD (dC (.int 2))) (dCons (dD (dC (.int 3))) (dCons (dD (dC (.int 5))) (dCons (dD (dC (.int 8))) dNil))))))) (okD (dOp gMod (dVar 1) (dC (.int 5))))))
    (dRet (dJoinS (dC (.str "")) (okN (dLc (M.bind (dCons (dD (dVar 4)) dNil) rng1X) (dName 5) (M.pure true) claw_piece2e [5]))))) dNx)
    (dSeq (dIfS (dCmpT (gEq false) (dVar 2) (dC (.int 2))) (dSeq (dSet 4 (dOp gIx (okN (dLst (dCons (dD (dC (.int 0))) (dCons (dD (dC (.int 1))) (dCons (dD (dC (.int 2))) (dCons (dD (dC (.int 3))) dNil)))))) (okD (dOp gMod (dVar 1) (dC (.int 4))))))
    (dRet (dOp gAdd (okD (M.bind (okD (dOp gAdd (dC (.int 1)) (okD (dOp gMod (okD (dOp gDiv (dVar 1) (dC (.int 4)))) (dC (.int 9)))))) gStrA)) (okD (dJoinS (dC (.str "")) (okN (dLc (M.bind (dCons (dD (dVar 4)) dNil) rng1X) (dName 5) (M.pure true) claw_piece1e [5]))))))) dNx)
    (dRet (dOp gIx (okN (dLst (dCons (dD (dC (.str "."))) (dCons (dD (dC (.str ","))) (dCons (dD (dC (.str "0"))) (dCons (dD (dC (.str "."))) (dCons (dD (dC (.str "then"))) (dCons (dD (dC (.str "1000"))) (dCons (dD (dC (.str "z9"))) (dCons (dD (dC (.str "9z"))) dNil)))))))))) (okD (dOp gMod (dVar 1) (dC (.int 8))))))))))))
theorem raw_law_piece (T : Tx K mg Env.HallError Env.BadSign Env.BadText Env.BadName Env.BadNumber Env.BadRing Env.BadLoan Env.TooMany Env.NoDoor Env.BadChange Env.BadKept) (h_F__law_told_words : Okf P w K mg base 1 "_law_told_words" [] g_law_told_words) : Okf P w K mg base 2 "_law_piece" ["_law_cell"] (runD 6 1 den_law_piece) := by
  have sc := sclaw_piece
  exact ok_has (N := Nlaw_piece) T.d_law_piece sc rfl (by decide) fun f cdv A outer s H E hr => ⟨_, ((bd_cons (sd_set (i := 1) sc.nd rfl (by first | exact Or.inl rfl | exact Or.inr rfl) (dd_div (ed_var 0) ed_int))
    (bd_cons (sd_set (i := 2) sc.nd rfl (by first | exact Or.inl rfl | exact Or.inr rfl) (dd_mod (ed_var 0) ed_int))
    (bd_cons (sd_set (i := 3) sc.nd rfl (by first | exact Or.inl rfl | exact Or.inr rfl) (ED.d ed_str))
    (bd_cons (sd_if (td_cmp (cEq hr.units) (ed_var 2) ed_int (nomark _)) (bd_one (sd_ret (dd_ix (DD.e (dd_fn0 h_F__law_told_words (hr.mono (by decide)) (by rfl))) (DD.e (dd_mod (ed_var 1) ed_int)) (fun _ _ => rfl)))) bd_nil)
    (bd_cons (sd_if (td_cmp (cEq hr.units) (ed_var 2) ed_int (nomark _)) (bd_cons (sd_set (i := 4) sc.nd rfl (by first | exact Or.inl rfl | exact Or.inr rfl) (dd_ix (EN.e (en_lst (ad_cons (ED.d ed_int) (ad_cons (ED.d ed_int) (ad_cons (ED.d ed_int) (ad_cons (ED.d ed_int) (ad_cons (ED.d ed_int) ad_nil))))))) (DD.e (dd_mod (ed_var 1) ed_int)) (fun _ _ => rfl)))
    (bd_one (sd_ret (dd_join ed_str (EN.e (en_lc (own := [("_law_k", 5)]) (W' := W0) rfl sc.nd (id_range1 (by rfl) T.n_range (ad_cons (ED.d (ed_var 4)) ad_nil)) (blkOk_by (N := Nlaw_piece) (sc := defScope slaw_piece) (by decide +kernel)) (fun _ _ _ _ _ => (gd_name (i := 5) sc.nd rfl (by first | exact Or.inl rfl | exact Or.inr rfl))) (fun _ _ _ _ _ => tsd_nil) (fun _ _ _ _ _ => (dd_ix (ed_var 3) (DD.e (dd_mod (DD.e (dd_add (DD.e (dd_div (ed_var 1) ed_int)) (DD.e (dd_mul (ed_var 5) (DD.e (dd_add ed_int (DD.e (dd_mod (DD.e (dd_div (ed_var 1) ed_int)) ed_int)))))))) ed_int)) (fun _ _ => rfl))))))))) bd_nil)
    (bd_cons (sd_if (td_cmp (cEq hr.units) (ed_var 2) ed_int (nomark _)) (bd_cons (sd_set (i := 4) sc.nd rfl (by first | exact Or.inl rfl | exact Or.inr rfl) (dd_ix (EN.e (en_lst (ad_cons (ED.d ed_int) (ad_cons (ED.d ed_int) (ad_cons (ED.d ed_int) (ad_cons (ED.d ed_int) ad_nil)))))) (DD.e (dd_mod (ed_var 1) ed_int)) (fun _ _ => rfl)))
    (bd_one (sd_ret (dd_add (DD.e (dd_t1 bStrA (by rfl) T.n_str (by decide +kernel) (DD.e (dd_add ed_int (DD.e (dd_mod (DD.e (dd_div (ed_var 1) ed_int)) ed_int)))))) (DD.e (dd_join ed_str (EN.e (en_lc (own := [("_law_k", 5)]) (W' := W0) rfl sc.nd (id_range1 (by rfl) T.n_range (ad_cons (ED.d (ed_var 4)) ad_nil)) (blkOk_by (N := Nlaw_piece) (sc := defScope slaw_piece) (by decide +kernel)) (fun _ _ _ _ _ => (gd_name (i := 5) sc.nd rfl (by first | exact Or.inl rfl | exact Or.inr rfl))) (fun _ _ _ _ _ => tsd_nil) (fun _ _ _ _ _ => (dd_t1 bStrA (by rfl) T.n_str (by decide +kernel) (DD.e (dd_mod (DD.e (dd_add (DD.e (dd_div (ed_var 1) ed_int)) (DD.e (dd_mul (ed_var 5) (DD.e (dd_mod (DD.e (dd_div (ed_var 1) ed_int)) ed_int)))))) ed_int)))))))))))) bd_nil)
    (bd_one (sd_ret (dd_ix (EN.e (en_lst (ad_cons (ED.d ed_str) (ad_cons (ED.d ed_str) (ad_cons (ED.d ed_str) (ad_cons (ED.d ed_str) (ad_cons (ED.d ed_str) (ad_cons (ED.d ed_str) (ad_cons (ED.d ed_str) (ad_cons (ED.d ed_str) ad_nil)))))))))) (DD.e (dd_mod (ed_var 1) ed_int)) (fun _ _ => rfl)))))))))) : BD _ _ _ _ den_law_piece)⟩
noncomputable def g_law_piece : G := runD 6 1 den_law_piece
theorem eq_law_piece : ∀ ds S, g_law_piece ds S ≠ .no → runD 6 1 den_law_piece ds S = g_law_piece ds S := fun _ _ _ => rfl

theorem join_len (ys : List Str) (h : ∀ y ∈ ys, y.length ≤ 1) : (Txt.join (Str.ofString "") ys).length ≤ ys.length := by
  have e : Txt.join (Str.ofString "") ys = Str.join (Str.ofString "") ys := TL.join_eq _ _
  rw [e]
  induction ys with
  | nil => exact Nat.le_refl _
  | cons a r ih =>
    cases r with
    | nil => exact h a List.mem_cons_self
    | cons b r =>
      have e2 : Str.join (Str.ofString "") (a :: b :: r) = a ++ (Str.ofString "") ++ Str.join (Str.ofString "") (b :: r) := rfl
      have h0 : (Str.ofString "").length = 0 := by decide +kernel
      have := ih (fun y hy => h y (List.mem_cons_of_mem _ hy)) (TL.join_eq _ _)
      have := h a List.mem_cons_self
      rw [e2, str_app_len, str_app_len, h0]
      simp only [List.length_cons] at *
      omega
theorem sum_le1 : ∀ ys : List Str, (∀ y ∈ ys, y.length ≤ 1) → (ys.map (·.length)).sum ≤ ys.length
  | [], _ => Nat.le_refl _
  | y :: ys, h => by
    have := sum_le1 ys fun z hz => h z (List.mem_cons_of_mem _ hz)
    have := h y List.mem_cons_self
    simp only [List.map_cons, List.sum_cons, List.length_cons]
    omega
/-- a comprehension of short texts -/
theorem itL_sh {dg : D → M Unit} {de : M D} {vs : List Nat} {w : List Slot} {S : List Cell} (ds : List D) (c : Stt) (hw : wipeD c.r vs = w) (hS : c.S = S) (hz : ds.length ≤ 1000000)
    (t : ∀ d ∈ ds, ∃ y : Str, y.length ≤ 1 ∧ ∃ c1, dg d ⟨w, S⟩ = .ok () c1 ∧ wipeD c1.r vs = w ∧ c1.S = S ∧ ∃ c3, de c1 = .ok (sD y) c3 ∧ wipeD c3.r vs = w ∧ c3.S = S) :
    ∃ ys : List Str, ys.length = ds.length ∧ (∀ y ∈ ys, y.length ≤ 1) ∧ ∀ r0, itL dg (M.pure true) de vs r0 ds [] c = .ok (Ss ys) ⟨w, S⟩ := by
  let g : D → Str := fun d => open Classical in if h : d ∈ ds then Classical.choose (t d h) else Str.ofString ""
  have hg : ∀ d (h : d ∈ ds), g d = Classical.choose (t d h) := fun d h => dif_pos h
  refine ⟨ds.map g, by simp, fun y hy => ?_, fun r0 => ?_⟩
  · obtain ⟨d, hd, rfl⟩ := List.mem_map.mp hy
    rw [hg d hd]
    exact (Classical.choose_spec (t d hd)).1
  · have e := itL_map (dg := dg) (dt := M.pure true) (de := de) (vs := vs) (r0 := r0) (w := w) (S := S) (p := fun _ => true) (f := fun d => sD (g d)) ds [] c hw hS (by simpa using hz) (fun d hd => by
      obtain ⟨_, c1, e1, w1, s1, c3, e3, w3, s3⟩ := Classical.choose_spec (t d hd)
      refine ⟨c1, e1, c1, rfl, w1, s1, fun _ => ⟨c3, ?_, w3, s3⟩⟩
      rw [hg d hd]
      exact e3)
    rw [e, List.nil_append, List.filter_eq_self.mpr fun _ _ => rfl]
    unfold Ss
    rw [List.map_map]
    rfl
theorem one_dig {i : Int} (h : 0 ≤ i ∧ i < 10) : (toString i : String).length ≤ 1 := by
  have : i = 0 ∨ i = 1 ∨ i = 2 ∨ i = 3 ∨ i = 4 ∨ i = 5 ∨ i = 6 ∨ i = 7 ∨ i = 8 ∨ i = 9 := by omega
  rcases this with rfl | rfl | rfl | rfl | rfl | rfl | rfl | rfl | rfl | rfl <;> decide
theorem one_dgS {i : Int} (h : 0 ≤ i ∧ i < 10) : (Str.ofString (toString i)).length ≤ 1 := by
  have : i = 0 ∨ i = 1 ∨ i = 2 ∨ i = 3 ∨ i = 4 ∨ i = 5 ∨ i = 6 ∨ i = 7 ∨ i = 8 ∨ i = 9 := by omega
  rcases this with rfl | rfl | rfl | rfl | rfl | rfl | rfl | rfl | rfl | rfl <;> decide +kernel
theorem log_dig {i : Int} (h : 0 ≤ i ∧ i < 10) : i.natAbs.log2 < 1920 := Nat.lt_trans (log2_lt (k := 4) (by decide) (by omega)) (by decide)
theorem rng_mem {n : Nat} {d : D} (h : d ∈ rngD 0 n) : ∃ k : Int, 0 ≤ k ∧ k < n ∧ d = .v (.int k) := by
  unfold rngD at h
  obtain ⟨k, hk, rfl⟩ := List.mem_map.mp h
  have := List.mem_range.mp hk
  exact ⟨k, by omega, by omega, by rw [Int.zero_add]⟩
theorem rng_len (n : Nat) : (rngD 0 n).length = n := by simp [rngD]
theorem strsD_Ss (ys : List Str) : strsD (Ss ys) = some ys := strsD_map ys
def SzD (n : Int) (d : D) : Prop := ∃ k : Int, d = .v (.int k) ∧ 0 ≤ k ∧ k ≤ n
theorem piece_ok (c : Int) (S : List Cell) : ∃ w : Str, w.length ≤ 20 ∧ g_law_piece [.v (.int c)] S = .ok (sD w) S := by
  have d5 : divOk 5 := divOk_s (by decide) (by decide)
  have d31 : divOk 31 := divOk_s (by decide) (by decide)
  have d130 : divOk 130 := divOk_s (by decide) (by decide)
  have d25 : divOk 25 := divOk_s (by decide) (by decide)
  have d26 : divOk 26 := divOk_s (by decide) (by decide)
  have d4 : divOk 4 := divOk_s (by decide) (by decide)
  have d9 : divOk 9 := divOk_s (by decide) (by decide)
  have d36 : divOk 36 := divOk_s (by decide) (by decide)
  have d360 : divOk 360 := divOk_s (by decide) (by decide)
  have d10 : divOk 10 := divOk_s (by decide) (by decide)
  have d8 : divOk 8 := divOk_s (by decide) (by decide)
  by_cases k0 : c.fmod 5 = 0
  · obtain ⟨_, ⟨w, rfl, hw⟩, e⟩ := pickP (c := c.fdiv 5) (m := 31) (by decide) (by decide) (shD_all 20 TOLDs (by decide +kernel))
    have tw := tw_ok S
    refine ⟨w, hw, ?_⟩
    simp only [g_law_piece, den_law_piece, runD, dD, dNil, dCons, dAnd, dOr, dNotT, dAndV, dOrV, dNotV, dIf, dTru, dCmpT, dSeq, dRet, dSet, dSetN, dIfS, dNx, dDrop, dOp, dNeg, dTup, dLst, dC, dK, dVar, okD, okN, frz, dCall, ofF, dAug, dPar, dApp, dChain, dListOf, dSlL, dRev,
  M.bind, M.pure, M.no, M.ne, dName, dUnit, dConsG, dTupG, gOr, gI, gS, gAdd, gSubI, gMul, gDiv, gMod, gPow, gIx, gLen, gAbs, gInt1, gSum, gAll, gAny, gMaxL, gMinL, gTupOf, g2I, gDm, gPart, gTru, gBool, gBoolO, gEq_pair, gEq_ints, gEq_sl1, gEq_sl2, opL, gEq_int, gEq_str, gEq_bl, gEq_non, gNone, gIn, gSign, gCat, gRep, gIsi,
  iLt, iLe, iGt, iGe, My.isNon, truD, tagD, seqD, lstD, rdlD, mutD, putL, tupD, vsD, rng1X, rng2X, enuX, zipX, seqX,
  Option.bind, Option.map, Option.bind_some, Option.map_some,
  List.map_cons, List.map_nil, List.length_cons, List.length_nil, List.nil_append, List.cons_append, List.replicate, List.getElem?_cons_zero, List.getElem?_cons_succ, List.set_cons_zero, List.set_cons_succ, List.append_nil,
  if_true, if_false, ite_true, ite_false, Nat.reduceAdd, Int.reduceToNat, Int.reducePow, Nat.reducePow, Int.reduceMul, Int.reduceAdd, Int.reduceSub, Int.reduceLT, Int.reduceLE, Nat.reduceMul, Int.cast_ofNat_Int, Nat.reduceSub, Nat.reduceLT, Nat.reduceLeDiff, ne_eq, reduceCtorEq, not_false_eq_true, not_true_eq_false, Int.reduceEq, Int.reduceNeg, Bool.false_eq_true, Bool.not_true, Bool.not_false, decide_true, decide_false, true_and, and_true, false_and, and_false, or_true, true_or, or_false, false_or, id_eq, Bool.true_eq_false, decide_eq_true_eq, Bool.not_eq_true', decide_eq_false_iff_not, Bool.not_not, blsD, List.all_cons, List.all_nil, List.any_cons, List.any_nil, Bool.and_self, Bool.and_true, Bool.or_false, dFor, dLc, itL, wipeD, backD, isi_NoneType_bool, isi_NoneType_int, isi_NoneType_str, isi_NoneType_tuple, isi_NoneType_list, isi_NoneType_dict, isi_bool_bool, isi_bool_int, isi_bool_str, isi_bool_tuple, isi_bool_list, isi_bool_dict, isi_int_bool, isi_int_int, isi_int_str, isi_int_tuple, isi_int_list, isi_int_dict, isi_str_bool, isi_str_int, isi_str_str, isi_str_tuple, isi_str_list, isi_str_dict, isi_tuple_bool, isi_tuple_int, isi_tuple_str, isi_tuple_tuple, isi_tuple_list, isi_tuple_dict, isi_list_bool, isi_list_int, isi_list_str, isi_list_tuple, isi_list_list, isi_list_dict, isi_dict_bool, isi_dict_int, isi_dict_str, isi_dict_tuple, isi_dict_list, isi_dict_dict, dSlD, dCatN, dLcA, dLcX, dForA, dForX, gStr1, gIsiS, tagS, dJoinS, dIsStr, strsO, gStrA, dRaiseF, dPut, dCall0, k0, d5, d31, tw, e]
  · by_cases k1 : c.fmod 5 = 1
    · obtain ⟨_, ⟨n, rfl, hn0, hn⟩, e⟩ := pickP (P := SzD 8) (c := c.fdiv 5) (m := 5) (xs := [.v (.int 1), .v (.int 2), .v (.int 3), .v (.int 5), .v (.int 8)]) (by decide) (by decide) (fun x hx => by
        simp only [List.mem_cons, List.not_mem_nil, or_false] at hx
        rcases hx with rfl | rfl | rfl | rfl | rfl
        · exact ⟨1, rfl, by decide, by decide⟩
        · exact ⟨2, rfl, by decide, by decide⟩
        · exact ⟨3, rfl, by decide, by decide⟩
        · exact ⟨5, rfl, by decide, by decide⟩
        · exact ⟨8, rfl, by decide, by decide⟩)
      have r1 : ((-4611686018427387904 : Int) ≤ n) = True := eq_true (by omega)
      have r2 : (n.toNat < 4611686018427387904) = True := eq_true (by omega)
      have lz : ((Str.ofString "abcdefghijklmnopqrstuvwxyz").length ≤ 1000000) = True := eq_true (by decide +kernel)
      have ll : (Str.ofString "abcdefghijklmnopqrstuvwxyz").cps.toList.length = 26 := by decide +kernel
      have nz : (Str.ofString "").length = 0 := by decide +kernel
      obtain ⟨ys, ly, hy, L⟩ := itL_sh (dg := dName 5) (de := claw_piece2e) (vs := [5]) (S := S) (w := [.d (.v (.int c)), .d (.v (.int (c.fdiv 5))), .d (.v (.int 1)), .d (sD (Str.ofString "abcdefghijklmnopqrstuvwxyz")), .d (.v (.int n)), .no]) (rngD 0 n.toNat) ⟨[.d (.v (.int c)), .d (.v (.int (c.fdiv 5))), .d (.v (.int 1)), .d (sD (Str.ofString "abcdefghijklmnopqrstuvwxyz")), .d (.v (.int n)), .no], S⟩ rfl rfl (by rw [rng_len]; omega) (fun d hd => by
        obtain ⟨k, hk0, hk, rfl⟩ := rng_mem hd
        have m1 : mulOk k (1 + ((c.fdiv 5).fdiv 130).fmod 25) := mulOk_l (by omega)
        have bA := fmod_bd (c := (c.fdiv 5).fdiv 5 + k * (1 + ((c.fdiv 5).fdiv 130).fmod 25)) (m := 26) (by decide)
        obtain ⟨x, _, ex⟩ := at_ex (xs := (Str.ofString "abcdefghijklmnopqrstuvwxyz").cps.toList) bA.1 (by rw [ll]; exact bA.2)
        refine ⟨⟨#[x]⟩, Nat.le_refl _, ⟨[.d (.v (.int c)), .d (.v (.int (c.fdiv 5))), .d (.v (.int 1)), .d (sD (Str.ofString "abcdefghijklmnopqrstuvwxyz")), .d (.v (.int n)), .d (.v (.int k))], S⟩, rfl, rfl, rfl, ⟨[.d (.v (.int c)), .d (.v (.int (c.fdiv 5))), .d (.v (.int 1)), .d (sD (Str.ofString "abcdefghijklmnopqrstuvwxyz")), .d (.v (.int n)), .d (.v (.int k))], S⟩, ?_, rfl, rfl⟩
        simp only [claw_piece2e, runD, dD, dNil, dCons, dAnd, dOr, dNotT, dAndV, dOrV, dNotV, dIf, dTru, dCmpT, dSeq, dRet, dSet, dSetN, dIfS, dNx, dDrop, dOp, dNeg, dTup, dLst, dC, dK, dVar, okD, okN, frz, dCall, ofF, dAug, dPar, dApp, dChain, dListOf, dSlL, dRev,
  M.bind, M.pure, M.no, M.ne, dName, dUnit, dConsG, dTupG, gOr, gI, gS, gAdd, gSubI, gMul, gDiv, gMod, gPow, gIx, gLen, gAbs, gInt1, gSum, gAll, gAny, gMaxL, gMinL, gTupOf, g2I, gDm, gPart, gTru, gBool, gBoolO, gEq_pair, gEq_ints, gEq_sl1, gEq_sl2, opL, gEq_int, gEq_str, gEq_bl, gEq_non, gNone, gIn, gSign, gCat, gRep, gIsi,
  iLt, iLe, iGt, iGe, My.isNon, truD, tagD, seqD, lstD, rdlD, mutD, putL, tupD, vsD, rng1X, rng2X, enuX, zipX, seqX,
  Option.bind, Option.map, Option.bind_some, Option.map_some,
  List.map_cons, List.map_nil, List.length_cons, List.length_nil, List.nil_append, List.cons_append, List.replicate, List.getElem?_cons_zero, List.getElem?_cons_succ, List.set_cons_zero, List.set_cons_succ, List.append_nil,
  if_true, if_false, ite_true, ite_false, Nat.reduceAdd, Int.reduceToNat, Int.reducePow, Nat.reducePow, Int.reduceMul, Int.reduceAdd, Int.reduceSub, Int.reduceLT, Int.reduceLE, Nat.reduceMul, Int.cast_ofNat_Int, Nat.reduceSub, Nat.reduceLT, Nat.reduceLeDiff, ne_eq, reduceCtorEq, not_false_eq_true, not_true_eq_false, Int.reduceEq, Int.reduceNeg, Bool.false_eq_true, Bool.not_true, Bool.not_false, decide_true, decide_false, true_and, and_true, false_and, and_false, or_true, true_or, or_false, false_or, id_eq, Bool.true_eq_false, decide_eq_true_eq, Bool.not_eq_true', decide_eq_false_iff_not, Bool.not_not, blsD, List.all_cons, List.all_nil, List.any_cons, List.any_nil, Bool.and_self, Bool.and_true, Bool.or_false, dFor, dLc, itL, wipeD, backD, isi_NoneType_bool, isi_NoneType_int, isi_NoneType_str, isi_NoneType_tuple, isi_NoneType_list, isi_NoneType_dict, isi_bool_bool, isi_bool_int, isi_bool_str, isi_bool_tuple, isi_bool_list, isi_bool_dict, isi_int_bool, isi_int_int, isi_int_str, isi_int_tuple, isi_int_list, isi_int_dict, isi_str_bool, isi_str_int, isi_str_str, isi_str_tuple, isi_str_list, isi_str_dict, isi_tuple_bool, isi_tuple_int, isi_tuple_str, isi_tuple_tuple, isi_tuple_list, isi_tuple_dict, isi_list_bool, isi_list_int, isi_list_str, isi_list_tuple, isi_list_list, isi_list_dict, isi_dict_bool, isi_dict_int, isi_dict_str, isi_dict_tuple, isi_dict_list, isi_dict_dict, dSlD, dCatN, dLcA, dLcX, dForA, dForX, gStr1, gIsiS, tagS, dJoinS, dIsStr, strsO, gStrA, dRaiseF, dPut, d5, d130, d25, d26, m1, lz, ex])
      rw [rng_len] at ly
      have jl := join_len ys hy
      have s1 := sum_le1 ys hy
      have sz : ((ys.map (·.length)).sum + ys.length * (Str.ofString "").length ≤ 1000000) = True := eq_true (by rw [nz]; omega)
      have ss := strsD_Ss ys
      refine ⟨Txt.join (Str.ofString "") ys, by omega, ?_⟩
      simp only [g_law_piece, den_law_piece, runD, dD, dNil, dCons, dAnd, dOr, dNotT, dAndV, dOrV, dNotV, dIf, dTru, dCmpT, dSeq, dRet, dSet, dSetN, dIfS, dNx, dDrop, dOp, dNeg, dTup, dLst, dC, dK, dVar, okD, okN, frz, dCall, ofF, dAug, dPar, dApp, dChain, dListOf, dSlL, dRev,
  M.bind, M.pure, M.no, M.ne, dName, dUnit, dConsG, dTupG, gOr, gI, gS, gAdd, gSubI, gMul, gDiv, gMod, gPow, gIx, gLen, gAbs, gInt1, gSum, gAll, gAny, gMaxL, gMinL, gTupOf, g2I, gDm, gPart, gTru, gBool, gBoolO, gEq_pair, gEq_ints, gEq_sl1, gEq_sl2, opL, gEq_int, gEq_str, gEq_bl, gEq_non, gNone, gIn, gSign, gCat, gRep, gIsi,
  iLt, iLe, iGt, iGe, My.isNon, truD, tagD, seqD, lstD, rdlD, mutD, putL, tupD, vsD, rng1X, rng2X, enuX, zipX, seqX,
  Option.bind, Option.map, Option.bind_some, Option.map_some,
  List.map_cons, List.map_nil, List.length_cons, List.length_nil, List.nil_append, List.cons_append, List.replicate, List.getElem?_cons_zero, List.getElem?_cons_succ, List.set_cons_zero, List.set_cons_succ, List.append_nil,
  if_true, if_false, ite_true, ite_false, Nat.reduceAdd, Int.reduceToNat, Int.reducePow, Nat.reducePow, Int.reduceMul, Int.reduceAdd, Int.reduceSub, Int.reduceLT, Int.reduceLE, Nat.reduceMul, Int.cast_ofNat_Int, Nat.reduceSub, Nat.reduceLT, Nat.reduceLeDiff, ne_eq, reduceCtorEq, not_false_eq_true, not_true_eq_false, Int.reduceEq, Int.reduceNeg, Bool.false_eq_true, Bool.not_true, Bool.not_false, decide_true, decide_false, true_and, and_true, false_and, and_false, or_true, true_or, or_false, false_or, id_eq, Bool.true_eq_false, decide_eq_true_eq, Bool.not_eq_true', decide_eq_false_iff_not, Bool.not_not, blsD, List.all_cons, List.all_nil, List.any_cons, List.any_nil, Bool.and_self, Bool.and_true, Bool.or_false, dFor, dLc, wipeD, backD, isi_NoneType_bool, isi_NoneType_int, isi_NoneType_str, isi_NoneType_tuple, isi_NoneType_list, isi_NoneType_dict, isi_bool_bool, isi_bool_int, isi_bool_str, isi_bool_tuple, isi_bool_list, isi_bool_dict, isi_int_bool, isi_int_int, isi_int_str, isi_int_tuple, isi_int_list, isi_int_dict, isi_str_bool, isi_str_int, isi_str_str, isi_str_tuple, isi_str_list, isi_str_dict, isi_tuple_bool, isi_tuple_int, isi_tuple_str, isi_tuple_tuple, isi_tuple_list, isi_tuple_dict, isi_list_bool, isi_list_int, isi_list_str, isi_list_tuple, isi_list_list, isi_list_dict, isi_dict_bool, isi_dict_int, isi_dict_str, isi_dict_tuple, isi_dict_list, isi_dict_dict, dSlD, dCatN, dLcA, dLcX, dForA, dForX, gStr1, gIsiS, tagS, dJoinS, dIsStr, strsO, gStrA, dRaiseF, dPut, seqX, wipeD, backD, k1, d5, e, r1, r2, L, ss, sz]
    · by_cases k2 : c.fmod 5 = 2
      · obtain ⟨_, ⟨n, rfl, hn0, hn⟩, e⟩ := pickP (P := SzD 3) (c := c.fdiv 5) (m := 4) (xs := [.v (.int 0), .v (.int 1), .v (.int 2), .v (.int 3)]) (by decide) (by decide) (fun x hx => by
          simp only [List.mem_cons, List.not_mem_nil, or_false] at hx
          rcases hx with rfl | rfl | rfl | rfl
          · exact ⟨0, rfl, by decide, by decide⟩
          · exact ⟨1, rfl, by decide, by decide⟩
          · exact ⟨2, rfl, by decide, by decide⟩
          · exact ⟨3, rfl, by decide, by decide⟩)
        have r1 : ((-4611686018427387904 : Int) ≤ n) = True := eq_true (by omega)
        have r2 : (n.toNat < 4611686018427387904) = True := eq_true (by omega)
        have nz : (Str.ofString "").length = 0 := by decide +kernel
        obtain ⟨ys, ly, hy, L⟩ := itL_sh (dg := dName 5) (de := claw_piece1e) (vs := [5]) (S := S) (w := [.d (.v (.int c)), .d (.v (.int (c.fdiv 5))), .d (.v (.int 2)), .d (sD (Str.ofString "abcdefghijklmnopqrstuvwxyz")), .d (.v (.int n)), .no]) (rngD 0 n.toNat) ⟨[.d (.v (.int c)), .d (.v (.int (c.fdiv 5))), .d (.v (.int 2)), .d (sD (Str.ofString "abcdefghijklmnopqrstuvwxyz")), .d (.v (.int n)), .no], S⟩ rfl rfl (by rw [rng_len]; omega) (fun d hd => by
          obtain ⟨k, hk0, hk, rfl⟩ := rng_mem hd
          have m1 : mulOk k (((c.fdiv 5).fdiv 360).fmod 10) := mulOk_l (by omega)
          have bA := fmod_bd (c := (c.fdiv 5).fdiv 36 + k * (((c.fdiv 5).fdiv 360).fmod 10)) (m := 10) (by decide)
          have lg := eq_true (log_dig bA)
          refine ⟨Str.ofString (toString (((c.fdiv 5).fdiv 36 + k * (((c.fdiv 5).fdiv 360).fmod 10)).fmod 10)), one_dgS bA, ⟨[.d (.v (.int c)), .d (.v (.int (c.fdiv 5))), .d (.v (.int 2)), .d (sD (Str.ofString "abcdefghijklmnopqrstuvwxyz")), .d (.v (.int n)), .d (.v (.int k))], S⟩, rfl, rfl, rfl, ⟨[.d (.v (.int c)), .d (.v (.int (c.fdiv 5))), .d (.v (.int 2)), .d (sD (Str.ofString "abcdefghijklmnopqrstuvwxyz")), .d (.v (.int n)), .d (.v (.int k))], S⟩, ?_, rfl, rfl⟩
          simp only [claw_piece1e, runD, dD, dNil, dCons, dAnd, dOr, dNotT, dAndV, dOrV, dNotV, dIf, dTru, dCmpT, dSeq, dRet, dSet, dSetN, dIfS, dNx, dDrop, dOp, dNeg, dTup, dLst, dC, dK, dVar, okD, okN, frz, dCall, ofF, dAug, dPar, dApp, dChain, dListOf, dSlL, dRev,
  M.bind, M.pure, M.no, M.ne, dName, dUnit, dConsG, dTupG, gOr, gI, gS, gAdd, gSubI, gMul, gDiv, gMod, gPow, gIx, gLen, gAbs, gInt1, gSum, gAll, gAny, gMaxL, gMinL, gTupOf, g2I, gDm, gPart, gTru, gBool, gBoolO, gEq_pair, gEq_ints, gEq_sl1, gEq_sl2, opL, gEq_int, gEq_str, gEq_bl, gEq_non, gNone, gIn, gSign, gCat, gRep, gIsi,
  iLt, iLe, iGt, iGe, My.isNon, truD, tagD, seqD, lstD, rdlD, mutD, putL, tupD, vsD, rng1X, rng2X, enuX, zipX, seqX,
  Option.bind, Option.map, Option.bind_some, Option.map_some,
  List.map_cons, List.map_nil, List.length_cons, List.length_nil, List.nil_append, List.cons_append, List.replicate, List.getElem?_cons_zero, List.getElem?_cons_succ, List.set_cons_zero, List.set_cons_succ, List.append_nil,
  if_true, if_false, ite_true, ite_false, Nat.reduceAdd, Int.reduceToNat, Int.reducePow, Nat.reducePow, Int.reduceMul, Int.reduceAdd, Int.reduceSub, Int.reduceLT, Int.reduceLE, Nat.reduceMul, Int.cast_ofNat_Int, Nat.reduceSub, Nat.reduceLT, Nat.reduceLeDiff, ne_eq, reduceCtorEq, not_false_eq_true, not_true_eq_false, Int.reduceEq, Int.reduceNeg, Bool.false_eq_true, Bool.not_true, Bool.not_false, decide_true, decide_false, true_and, and_true, false_and, and_false, or_true, true_or, or_false, false_or, id_eq, Bool.true_eq_false, decide_eq_true_eq, Bool.not_eq_true', decide_eq_false_iff_not, Bool.not_not, blsD, List.all_cons, List.all_nil, List.any_cons, List.any_nil, Bool.and_self, Bool.and_true, Bool.or_false, dFor, dLc, itL, wipeD, backD, isi_NoneType_bool, isi_NoneType_int, isi_NoneType_str, isi_NoneType_tuple, isi_NoneType_list, isi_NoneType_dict, isi_bool_bool, isi_bool_int, isi_bool_str, isi_bool_tuple, isi_bool_list, isi_bool_dict, isi_int_bool, isi_int_int, isi_int_str, isi_int_tuple, isi_int_list, isi_int_dict, isi_str_bool, isi_str_int, isi_str_str, isi_str_tuple, isi_str_list, isi_str_dict, isi_tuple_bool, isi_tuple_int, isi_tuple_str, isi_tuple_tuple, isi_tuple_list, isi_tuple_dict, isi_list_bool, isi_list_int, isi_list_str, isi_list_tuple, isi_list_list, isi_list_dict, isi_dict_bool, isi_dict_int, isi_dict_str, isi_dict_tuple, isi_dict_list, isi_dict_dict, dSlD, dCatN, dLcA, dLcX, dForA, dForX, gStr1, gIsiS, tagS, dJoinS, dIsStr, strsO, gStrA, dRaiseF, dPut, d36, d360, d10, m1, lg])
        rw [rng_len] at ly
        have jl := join_len ys hy
        have s1 := sum_le1 ys hy
        have sz : ((ys.map (·.length)).sum + ys.length * (Str.ofString "").length ≤ 1000000) = True := eq_true (by rw [nz]; omega)
        have ss := strsD_Ss ys
        have bB := fmod_bd (c := (c.fdiv 5).fdiv 4) (m := 9) (by decide)
        have k1' : ¬ ((2 : Int) = 1) := by decide
        have lg : ((1 + ((c.fdiv 5).fdiv 4).fmod 9).natAbs.log2 < 1920) = True := eq_true (Nat.lt_trans (log2_lt (k := 4) (by decide) (by omega)) (by decide))
        have l9 : (Str.ofString (toString (1 + ((c.fdiv 5).fdiv 4).fmod 9))).length ≤ 1 := one_dgS (by omega)
        have la := str_app_len (Str.ofString (toString (1 + ((c.fdiv 5).fdiv 4).fmod 9))) (Txt.join (Str.ofString "") ys)
        have lc : ((Str.ofString (toString (1 + ((c.fdiv 5).fdiv 4).fmod 9))).length + (Txt.join (Str.ofString "") ys).length ≤ 1000000) = True := eq_true (by omega)
        refine ⟨Str.ofString (toString (1 + ((c.fdiv 5).fdiv 4).fmod 9)) ++ Txt.join (Str.ofString "") ys, by omega, ?_⟩
        simp only [g_law_piece, den_law_piece, runD, dD, dNil, dCons, dAnd, dOr, dNotT, dAndV, dOrV, dNotV, dIf, dTru, dCmpT, dSeq, dRet, dSet, dSetN, dIfS, dNx, dDrop, dOp, dNeg, dTup, dLst, dC, dK, dVar, okD, okN, frz, dCall, ofF, dAug, dPar, dApp, dChain, dListOf, dSlL, dRev,
  M.bind, M.pure, M.no, M.ne, dName, dUnit, dConsG, dTupG, gOr, gI, gS, gAdd, gSubI, gMul, gDiv, gMod, gPow, gIx, gLen, gAbs, gInt1, gSum, gAll, gAny, gMaxL, gMinL, gTupOf, g2I, gDm, gPart, gTru, gBool, gBoolO, gEq_pair, gEq_ints, gEq_sl1, gEq_sl2, opL, gEq_int, gEq_str, gEq_bl, gEq_non, gNone, gIn, gSign, gCat, gRep, gIsi,
  iLt, iLe, iGt, iGe, My.isNon, truD, tagD, seqD, lstD, rdlD, mutD, putL, tupD, vsD, rng1X, rng2X, enuX, zipX, seqX,
  Option.bind, Option.map, Option.bind_some, Option.map_some,
  List.map_cons, List.map_nil, List.length_cons, List.length_nil, List.nil_append, List.cons_append, List.replicate, List.getElem?_cons_zero, List.getElem?_cons_succ, List.set_cons_zero, List.set_cons_succ, List.append_nil,
  if_true, if_false, ite_true, ite_false, Nat.reduceAdd, Int.reduceToNat, Int.reducePow, Nat.reducePow, Int.reduceMul, Int.reduceAdd, Int.reduceSub, Int.reduceLT, Int.reduceLE, Nat.reduceMul, Int.cast_ofNat_Int, Nat.reduceSub, Nat.reduceLT, Nat.reduceLeDiff, ne_eq, reduceCtorEq, not_false_eq_true, not_true_eq_false, Int.reduceEq, Int.reduceNeg, Bool.false_eq_true, Bool.not_true, Bool.not_false, decide_true, decide_false, true_and, and_true, false_and, and_false, or_true, true_or, or_false, false_or, id_eq, Bool.true_eq_false, decide_eq_true_eq, Bool.not_eq_true', decide_eq_false_iff_not, Bool.not_not, blsD, List.all_cons, List.all_nil, List.any_cons, List.any_nil, Bool.and_self, Bool.and_true, Bool.or_false, dFor, dLc, wipeD, backD, isi_NoneType_bool, isi_NoneType_int, isi_NoneType_str, isi_NoneType_tuple, isi_NoneType_list, isi_NoneType_dict, isi_bool_bool, isi_bool_int, isi_bool_str, isi_bool_tuple, isi_bool_list, isi_bool_dict, isi_int_bool, isi_int_int, isi_int_str, isi_int_tuple, isi_int_list, isi_int_dict, isi_str_bool, isi_str_int, isi_str_str, isi_str_tuple, isi_str_list, isi_str_dict, isi_tuple_bool, isi_tuple_int, isi_tuple_str, isi_tuple_tuple, isi_tuple_list, isi_tuple_dict, isi_list_bool, isi_list_int, isi_list_str, isi_list_tuple, isi_list_list, isi_list_dict, isi_dict_bool, isi_dict_int, isi_dict_str, isi_dict_tuple, isi_dict_list, isi_dict_dict, dSlD, dCatN, dLcA, dLcX, dForA, dForX, gStr1, gIsiS, tagS, dJoinS, dIsStr, strsO, gStrA, dRaiseF, dPut, seqX, wipeD, backD, k0, k1, k2, d5, d4, d9, e, r1, r2, lg, L, ss, sz, lc]
      · obtain ⟨_, ⟨w, rfl, hw⟩, e⟩ := pickP (c := c.fdiv 5) (m := 8) (by decide) (by decide) (shD_all 20 [Str.ofString ".", Str.ofString ",", Str.ofString "0", Str.ofString ".", Str.ofString "then", Str.ofString "1000", Str.ofString "z9", Str.ofString "9z"] (by decide +kernel))
        refine ⟨w, hw, ?_⟩
        simp only [Ss, List.map_cons, List.map_nil] at e
        simp only [g_law_piece, den_law_piece, runD, dD, dNil, dCons, dAnd, dOr, dNotT, dAndV, dOrV, dNotV, dIf, dTru, dCmpT, dSeq, dRet, dSet, dSetN, dIfS, dNx, dDrop, dOp, dNeg, dTup, dLst, dC, dK, dVar, okD, okN, frz, dCall, ofF, dAug, dPar, dApp, dChain, dListOf, dSlL, dRev,
  M.bind, M.pure, M.no, M.ne, dName, dUnit, dConsG, dTupG, gOr, gI, gS, gAdd, gSubI, gMul, gDiv, gMod, gPow, gIx, gLen, gAbs, gInt1, gSum, gAll, gAny, gMaxL, gMinL, gTupOf, g2I, gDm, gPart, gTru, gBool, gBoolO, gEq_pair, gEq_ints, gEq_sl1, gEq_sl2, opL, gEq_int, gEq_str, gEq_bl, gEq_non, gNone, gIn, gSign, gCat, gRep, gIsi,
  iLt, iLe, iGt, iGe, My.isNon, truD, tagD, seqD, lstD, rdlD, mutD, putL, tupD, vsD, rng1X, rng2X, enuX, zipX, seqX,
  Option.bind, Option.map, Option.bind_some, Option.map_some,
  List.map_cons, List.map_nil, List.length_cons, List.length_nil, List.nil_append, List.cons_append, List.replicate, List.getElem?_cons_zero, List.getElem?_cons_succ, List.set_cons_zero, List.set_cons_succ, List.append_nil,
  if_true, if_false, ite_true, ite_false, Nat.reduceAdd, Int.reduceToNat, Int.reducePow, Nat.reducePow, Int.reduceMul, Int.reduceAdd, Int.reduceSub, Int.reduceLT, Int.reduceLE, Nat.reduceMul, Int.cast_ofNat_Int, Nat.reduceSub, Nat.reduceLT, Nat.reduceLeDiff, ne_eq, reduceCtorEq, not_false_eq_true, not_true_eq_false, Int.reduceEq, Int.reduceNeg, Bool.false_eq_true, Bool.not_true, Bool.not_false, decide_true, decide_false, true_and, and_true, false_and, and_false, or_true, true_or, or_false, false_or, id_eq, Bool.true_eq_false, decide_eq_true_eq, Bool.not_eq_true', decide_eq_false_iff_not, Bool.not_not, blsD, List.all_cons, List.all_nil, List.any_cons, List.any_nil, Bool.and_self, Bool.and_true, Bool.or_false, dFor, dLc, itL, wipeD, backD, isi_NoneType_bool, isi_NoneType_int, isi_NoneType_str, isi_NoneType_tuple, isi_NoneType_list, isi_NoneType_dict, isi_bool_bool, isi_bool_int, isi_bool_str, isi_bool_tuple, isi_bool_list, isi_bool_dict, isi_int_bool, isi_int_int, isi_int_str, isi_int_tuple, isi_int_list, isi_int_dict, isi_str_bool, isi_str_int, isi_str_str, isi_str_tuple, isi_str_list, isi_str_dict, isi_tuple_bool, isi_tuple_int, isi_tuple_str, isi_tuple_tuple, isi_tuple_list, isi_tuple_dict, isi_list_bool, isi_list_int, isi_list_str, isi_list_tuple, isi_list_list, isi_list_dict, isi_dict_bool, isi_dict_int, isi_dict_str, isi_dict_tuple, isi_dict_list, isi_dict_dict, dSlD, dCatN, dLcA, dLcX, dForA, dForX, gStr1, gIsiS, tagS, dJoinS, dIsStr, strsO, gStrA, dRaiseF, dPut, k0, k1, k2, d5, d8, e]
theorem ok_law_piece (T : Tx K mg Env.HallError Env.BadSign Env.BadText Env.BadName Env.BadNumber Env.BadRing Env.BadLoan Env.TooMany Env.NoDoor Env.BadChange Env.BadKept) (h_F__law_told_words : Okf P w K mg base 1 "_law_told_words" [] g_law_told_words) : Okf P w K mg base 2 "_law_piece" ["_law_cell"] g_law_piece := (raw_law_piece T h_F__law_told_words).by eq_law_piece
abbrev slaw_by_hand : Stmt := (top 35)
abbrev Nlaw_by_hand : List Str := ["_law_cell", "_law_number", "_law_word", "_law_found"]
theorem sclaw_by_hand : FnScope Nlaw_by_hand ["_law_cell"] (defScope slaw_by_hand) := ⟨rfl, rfl, rfl, by decide +kernel, rfl, by decide +kernel, by decide +kernel⟩
noncomputable def den_law_by_hand : M Fl :=
    (dSeq (dSet 1 (dOp gMod (dVar 0) (dC (.int 6001))))
    (dSeq (dSet 2 (dCall g_law_piece (dCons (dOp gAdd (okD (dOp gMul (okD (dOp gDiv (dVar 0) (dC (.int 6001)))) (dC (.int 5)))) (dC (.int 1))) dNil)))
    (dSeq (dIfS (dOr (dCmpT (gEq true) (okD (dD (dVar 1))) (dVar 1)) (dCmpT (gEq true) (okD (dOp gAdd (dVar 1) (dC (.int 1)))) (okD (dOp gAdd (dVar 1) (dC (.int 1)))))) (dRet (dD (dC (.bl false)))) dNx)
    (dSeq (dSetN 3 (dLst (dCons (dD (dVar 2)) (dCons (dD (dVar 2)) (dCons (dD (dVar 2)) (dCons (dD (dVar 2)) dNil))))))
    (dRet (dOp (gEq false) (dVar 3) (okD (dOp gMul (okN (dLst (dCons (dD (dVar 2)) dNil))) (dC (.int 4))))))))))
theorem raw_law_by_hand (T : Tx K mg Env.HallError Env.BadSign Env.BadText Env.BadName Env.BadNumber Env.BadRing Env.BadLoan Env.TooMany Env.NoDoor Env.BadChange Env.BadKept) (h_F__law_piece : Okf P w K mg base 2 "_law_piece" ["_law_cell"] g_law_piece) (h_X_BadLoan : OkX P w K mg base "BadLoan" Env.BadLoan "word") (h_X_BadName : OkX P w K mg base "BadName" Env.BadName "word") (h_X_BadNumber : OkX P w K mg base "BadNumber" Env.BadNumber "word") (h_X_BadRing : OkX P w K mg base "BadRing" Env.BadRing "word") (h_X_BadSign : OkX P w K mg base "BadSign" Env.BadSign "spot") (h_X_BadText : OkX P w K mg base "BadText" Env.BadText "spot") : Okf P w K mg base 3 "_law_by_hand" ["_law_cell"] (runD 4 1 den_law_by_hand) := by
  have sc := sclaw_by_hand
  exact ok_has (N := Nlaw_by_hand) T.d_law_by_hand sc rfl (by decide) fun f cdv A outer s H E hr => ⟨_, ((bd_cons (sd_set (i := 1) sc.nd rfl (by first | exact Or.inl rfl | exact Or.inr rfl) (dd_mod (ed_var 0) ed_int))
    (bd_cons (sd_set (i := 2) sc.nd rfl (by first | exact Or.inl rfl | exact Or.inr rfl) (dd_fn h_F__law_piece (hr.mono (by decide)) (by rfl) (pol_of (L2N.takes_of rfl rfl rfl rfl)) (ad_cons (dd_add (DD.e (dd_mul (DD.e (dd_div (ed_var 0) ed_int)) ed_int)) ed_int) ad_nil)))
    (bd_cons (sd_if (td_w (wd_or (td_cmp (cNe hr.units) (DD.e (dd_made h_X_BadSign T.xf_BadSign (hr.mono (by decide)) (by rfl) (ED.d (ed_var 1)))) (ed_var 1) (nomark _)) (wd_or1 (td_cmp (cNe hr.units) (DD.e (dd_made h_X_BadText T.xf_BadText (hr.mono (by decide)) (by rfl) (dd_add (ed_var 1) ed_int))) (DD.e (dd_add (ed_var 1) ed_int)) (nomark _))))) (bd_one (sd_ret (ED.d ed_bl))) bd_nil)
    (bd_cons (sd_setN (i := 3) sc.nd rfl (by first | exact Or.inl rfl | exact Or.inr rfl) (en_lst (ad_cons (dd_made h_X_BadName T.xf_BadName (hr.mono (by decide)) (by rfl) (ED.d (ed_var 2))) (ad_cons (dd_made h_X_BadNumber T.xf_BadNumber (hr.mono (by decide)) (by rfl) (ED.d (ed_var 2))) (ad_cons (dd_made h_X_BadRing T.xf_BadRing (hr.mono (by decide)) (by rfl) (ED.d (ed_var 2))) (ad_cons (dd_made h_X_BadLoan T.xf_BadLoan (hr.mono (by decide)) (by rfl) (ED.d (ed_var 2))) ad_nil))))))
    (bd_one (sd_ret (dd_cmp (cEq hr.units) (ed_var 3) (DD.e (dd_mul (EN.e (en_lst (ad_cons (ED.d (ed_var 2)) ad_nil))) ed_int)) (nomark _)))))))) : BD _ _ _ _ den_law_by_hand)⟩
noncomputable def g_law_by_hand : G := runD 4 1 den_law_by_hand
theorem eq_law_by_hand : ∀ ds S, g_law_by_hand ds S ≠ .no → runD 4 1 den_law_by_hand ds S = g_law_by_hand ds S := fun _ _ _ => rfl

theorem hand_ok {c : Int} {w : Str} {S : List Cell} (hp : g_law_piece [.v (.int (c.fdiv 6001 * 5 + 1))] S = .ok (sD w) S) : g_law_by_hand [.v (.int c)] S = .ok (.v (.bl true)) S := by
  have d1 : divOk 6001 := divOk_s (by decide) (by decide)
  have m1 : mulOk (c.fdiv 6001) 5 := mulOk_r (by decide)
  have g1 := fun c' => gEq_refl (neg := false) (a := .d (.lst [sD w, sD w, sD w, sD w])) (b := .d (.lst [sD w, sD w, sD w, sD w])) (l := [sD w, sD w, sD w, sD w]) (c := c') (pydA_cons pyd_str (pydA_cons pyd_str (pydA_cons pyd_str (pydA_cons pyd_str pydA_nil)))) rfl rfl
  have fl : [[sD w], [sD w], [sD w], [sD w]].flatten = [sD w, sD w, sD w, sD w] := rfl
  simp only [g_law_by_hand, den_law_by_hand, runD, dD, dNil, dCons, dAnd, dOr, dNotT, dAndV, dOrV, dNotV, dIf, dTru, dCmpT, dSeq, dRet, dSet, dSetN, dIfS, dNx, dDrop, dOp, dNeg, dTup, dLst, dC, dK, dVar, okD, okN, frz, dCall, ofF, dAug, dPar, dApp, dChain, dListOf, dSlL, dRev,
  M.bind, M.pure, M.no, M.ne, dName, dUnit, dConsG, dTupG, gOr, gI, gS, gAdd, gSubI, gMul, gDiv, gMod, gPow, gIx, gLen, gAbs, gInt1, gSum, gAll, gAny, gMaxL, gMinL, gTupOf, g2I, gDm, gPart, gTru, gBool, gBoolO, gEq_pair, gEq_ints, gEq_sl1, gEq_sl2, opL, gEq_int, gEq_str, gEq_bl, gEq_non, gNone, gIn, gSign, gCat, gRep, gIsi,
  iLt, iLe, iGt, iGe, My.isNon, truD, tagD, seqD, lstD, rdlD, mutD, putL, tupD, vsD, rng1X, rng2X, enuX, zipX, seqX,
  Option.bind, Option.map, Option.bind_some, Option.map_some,
  List.map_cons, List.map_nil, List.length_cons, List.length_nil, List.nil_append, List.cons_append, List.replicate, List.getElem?_cons_zero, List.getElem?_cons_succ, List.set_cons_zero, List.set_cons_succ, List.append_nil,
  if_true, if_false, ite_true, ite_false, Nat.reduceAdd, Int.reduceToNat, Int.reducePow, Nat.reducePow, Int.reduceMul, Int.reduceAdd, Int.reduceSub, Int.reduceLT, Int.reduceLE, Nat.reduceMul, Int.cast_ofNat_Int, Nat.reduceSub, Nat.reduceLT, Nat.reduceLeDiff, ne_eq, reduceCtorEq, not_false_eq_true, not_true_eq_false, Int.reduceEq, Int.reduceNeg, Bool.false_eq_true, Bool.not_true, Bool.not_false, decide_true, decide_false, true_and, and_true, false_and, and_false, or_true, true_or, or_false, false_or, id_eq, Bool.true_eq_false, decide_eq_true_eq, Bool.not_eq_true', decide_eq_false_iff_not, Bool.not_not, blsD, List.all_cons, List.all_nil, List.any_cons, List.any_nil, Bool.and_self, Bool.and_true, Bool.or_false, dFor, dLc, itL, wipeD, backD, isi_NoneType_bool, isi_NoneType_int, isi_NoneType_str, isi_NoneType_tuple, isi_NoneType_list, isi_NoneType_dict, isi_bool_bool, isi_bool_int, isi_bool_str, isi_bool_tuple, isi_bool_list, isi_bool_dict, isi_int_bool, isi_int_int, isi_int_str, isi_int_tuple, isi_int_list, isi_int_dict, isi_str_bool, isi_str_int, isi_str_str, isi_str_tuple, isi_str_list, isi_str_dict, isi_tuple_bool, isi_tuple_int, isi_tuple_str, isi_tuple_tuple, isi_tuple_list, isi_tuple_dict, isi_list_bool, isi_list_int, isi_list_str, isi_list_tuple, isi_list_list, isi_list_dict, isi_dict_bool, isi_dict_int, isi_dict_str, isi_dict_tuple, isi_dict_list, isi_dict_dict, dSlD, dCatN, dLcA, dLcX, dForA, dForX, gStr1, gIsiS, tagS, dJoinS, dIsStr, strsO, gStrA, dRaiseF, dPut, d1, m1, hp, fl, g1]
theorem ok_law_by_hand (T : Tx K mg Env.HallError Env.BadSign Env.BadText Env.BadName Env.BadNumber Env.BadRing Env.BadLoan Env.TooMany Env.NoDoor Env.BadChange Env.BadKept) (h_F__law_piece : Okf P w K mg base 2 "_law_piece" ["_law_cell"] g_law_piece) (h_X_BadLoan : OkX P w K mg base "BadLoan" Env.BadLoan "word") (h_X_BadName : OkX P w K mg base "BadName" Env.BadName "word") (h_X_BadNumber : OkX P w K mg base "BadNumber" Env.BadNumber "word") (h_X_BadRing : OkX P w K mg base "BadRing" Env.BadRing "word") (h_X_BadSign : OkX P w K mg base "BadSign" Env.BadSign "spot") (h_X_BadText : OkX P w K mg base "BadText" Env.BadText "spot") : Okf P w K mg base 3 "_law_by_hand" ["_law_cell"] g_law_by_hand := (raw_law_by_hand T h_F__law_piece h_X_BadLoan h_X_BadName h_X_BadNumber h_X_BadRing h_X_BadSign h_X_BadText).by eq_law_by_hand
abbrev slaw_text : Stmt := (top 29)
abbrev Nlaw_text : List Str := ["_law_script", "_law_first", "_law_text_here", "_law_k", "_law_cell", "_law_more", "_law_at"]
theorem sclaw_text : FnScope Nlaw_text ["_law_script"] (defScope slaw_text) := ⟨rfl, rfl, rfl, by decide +kernel, rfl, by decide +kernel, by decide +kernel⟩
noncomputable def flaw_text1b : M Fl :=
    (dSeq (dSet 6 (dOp gMod (okD (dOp gDiv (okD (dCall g_law_mixed (dCons (dD (dVar 5)) (dCons (dD (dVar 3)) dNil)))) (dC (.int 7)))) (okD (dOp gAdd (okD (M.bind (dVar 2) gLen)) (dC (.int 1))))))
    (dSet 2 (dOp gAdd (okD (dOp gAdd (okD (dOp gAdd (okD (dSlD (dVar 2) (M.pure none) (M.bind (dVar 6) gPart))) (okD (dOp gIx (okN (dLst (dCons (dD (dC (.str " "))) (dCons (dD (dC (.str ""))) dNil)))) (okD (dOp gMod (okD (dOp gDiv (dVar 5) (dC (.int 4)))) (dC (.int 2)))))))) (okD (dCall g_law_odd (dCons (dOp gDiv (okD (dCall g_law_mixed (dCons (dD (dVar 5)) (dCons (dOp gAdd (dC (.int 50)) (dVar 3)) dNil)))) (dC (.int 7))) dNil))))) (okD (dSlD (dVar 2) (M.bind (dVar 6) gPart) (M.pure none))))))
noncomputable def flaw_text2b : M Fl :=
    (dSeq (dSet 5 (dOp gDiv (okD (dCall g_law_mixed (dCons (dD (dVar 4)) (dCons (dD (dVar 3)) dNil)))) (dC (.int 7))))
    (dSet 2 (dOp gAdd (okD (dOp gAdd (dVar 2) (okD (dCall g_law_piece (dCons (dOp gDiv (dVar 5) (dC (.int 8))) dNil))))) (okD (dOp gIx (okN (dLst (dCons (dD (dC (.str " "))) (dCons (dD (dC (.str "\n"))) (dCons (dD (dC (.str "  "))) (dCons (dD (dC (.str " "))) (dCons (dD (dC (.str "\n "))) (dCons (dD (dC (.str " "))) (dCons (dD (dC (.str " "))) (dCons (dD (dC (.str ""))) dNil)))))))))) (okD (dOp gMod (dVar 5) (dC (.int 8)))))))))
noncomputable def den_law_text : M Fl :=
    (dSeq (dSet 1 (dCall g_law_cell_at (dCons (dD (dVar 0)) (dCons (dD (dC (.int 0))) dNil))))
    (dSeq (dSet 2 (dD (dC (.str ""))))
    (dSeq (dFor (M.bind (dCons (dD (okN (dSlL (dVar 0) (M.bind (dC (.int 1)) gPart) (M.bind (dC (.int 31)) gPart)))) dNil) enKX) (dTupG 2 (dConsG (dName 3) (dConsG (dName 4) dUnit))) flaw_text2b)
    (dSeq (dSet 5 (dOp gDiv (okD (dCall g_law_mixed (dCons (dD (dVar 1)) (dCons (dD (dC (.int 41))) dNil)))) (dC (.int 7))))
    (dSeq (dFor (M.bind (dCons (dOp gIx (okN (dLst (dCons (dD (dC (.int 0))) (dCons (dD (dC (.int 0))) (dCons (dD (dC (.int 1))) (dCons (dD (dC (.int 2))) dNil)))))) (okD (dOp gMod (dVar 5) (dC (.int 4))))) dNil) rng1X) (dName 3) flaw_text1b)
    (dSeq (dIfS (dCmpT (gEq false) (okD (dOp gMod (dVar 1) (dC (.int 16)))) (dC (.int 1))) (dRet (dSlD (okD (dOp gAdd (okD (dOp gAdd (dVar 2) (dC (.str " ")))) (okD (dOp gMulS (dC (.str "exit a, then 3 . ")) (dC (.int 360)))))) (M.pure none) (M.bind (okD (dOp gAdd (dC (.int 5990)) (okD (dOp gMod (okD (dOp gDiv (dVar 1) (dC (.int 16)))) (dC (.int 21)))))) gPart))) dNx)
    (dRet (dD (dVar 2)))))))))
theorem raw_law_text (T : Tx K mg Env.HallError Env.BadSign Env.BadText Env.BadName Env.BadNumber Env.BadRing Env.BadLoan Env.TooMany Env.NoDoor Env.BadChange Env.BadKept) (h_F__law_cell_at : Okf P w K mg base 1 "_law_cell_at" ["_law_script", "_law_k"] g_law_cell_at) (h_F__law_mixed : Okf P w K mg base 1 "_law_mixed" ["_law_cell", "_law_k"] g_law_mixed) (h_F__law_odd : Okf P w K mg base 1 "_law_odd" ["_law_cell"] g_law_odd) (h_F__law_piece : Okf P w K mg base 2 "_law_piece" ["_law_cell"] g_law_piece) : Okf P w K mg base 3 "_law_text" ["_law_script"] (runD 7 1 den_law_text) := by
  have sc := sclaw_text
  exact ok_has (N := Nlaw_text) T.d_law_text sc rfl (by decide) fun f cdv A outer s H E hr => ⟨_, ((bd_cons (sd_set (i := 1) sc.nd rfl (by first | exact Or.inl rfl | exact Or.inr rfl) (dd_fn h_F__law_cell_at (hr.mono (by decide)) (by rfl) (pol_of (L2N.takes_of rfl rfl rfl rfl)) (ad_cons (ED.d (ed_var 0)) (ad_cons (ED.d ed_int) ad_nil))))
    (bd_cons (sd_set (i := 2) sc.nd rfl (by first | exact Or.inl rfl | exact Or.inr rfl) (ED.d ed_str))
    (bd_cons (sd_for (passes_of rfl) rfl (id_enK (by rfl) T.n_enumerate (ad_cons (ED.d (EN.e (en_slice (ed_var 0) (od_some ed_int) (od_some ed_int)))) ad_nil)) (gd_tup rfl (gds_cons (gd_name (i := 3) sc.nd rfl (by first | exact Or.inl rfl | exact Or.inr rfl)) (gds_cons (gd_name (i := 4) sc.nd rfl (by first | exact Or.inl rfl | exact Or.inr rfl)) gds_nil))) (bd_cons (sd_set (i := 5) sc.nd rfl (by first | exact Or.inl rfl | exact Or.inr rfl) (dd_div (DD.e (dd_fn h_F__law_mixed (hr.mono (by decide)) (by rfl) (pol_of (L2N.takes_of rfl rfl rfl rfl)) (ad_cons (ED.d (ed_var 4)) (ad_cons (ED.d (ed_var 3)) ad_nil)))) ed_int))
    (bd_one (sd_set (i := 2) sc.nd rfl (by first | exact Or.inl rfl | exact Or.inr rfl) (dd_add (DD.e (dd_add (ed_var 2) (DD.e (dd_fn h_F__law_piece (hr.mono (by decide)) (by rfl) (pol_of (L2N.takes_of rfl rfl rfl rfl)) (ad_cons (dd_div (ed_var 5) ed_int) ad_nil))))) (DD.e (dd_ix (EN.e (en_lst (ad_cons (ED.d ed_str) (ad_cons (ED.d ed_str) (ad_cons (ED.d ed_str) (ad_cons (ED.d ed_str) (ad_cons (ED.d ed_str) (ad_cons (ED.d ed_str) (ad_cons (ED.d ed_str) (ad_cons (ED.d ed_str) ad_nil)))))))))) (DD.e (dd_mod (ed_var 5) ed_int)) (fun _ _ => rfl))))))))
    (bd_cons (sd_set (i := 5) sc.nd rfl (by first | exact Or.inl rfl | exact Or.inr rfl) (dd_div (DD.e (dd_fn h_F__law_mixed (hr.mono (by decide)) (by rfl) (pol_of (L2N.takes_of rfl rfl rfl rfl)) (ad_cons (ED.d (ed_var 1)) (ad_cons (ED.d ed_int) ad_nil)))) ed_int))
    (bd_cons (sd_for (passes_of rfl) rfl (id_range1 (by rfl) T.n_range (ad_cons (dd_ix (EN.e (en_lst (ad_cons (ED.d ed_int) (ad_cons (ED.d ed_int) (ad_cons (ED.d ed_int) (ad_cons (ED.d ed_int) ad_nil)))))) (DD.e (dd_mod (ed_var 5) ed_int)) (fun _ _ => rfl)) ad_nil)) (gd_name (i := 3) sc.nd rfl (by first | exact Or.inl rfl | exact Or.inr rfl)) (bd_cons (sd_set (i := 6) sc.nd rfl (by first | exact Or.inl rfl | exact Or.inr rfl) (dd_mod (DD.e (dd_div (DD.e (dd_fn h_F__law_mixed (hr.mono (by decide)) (by rfl) (pol_of (L2N.takes_of rfl rfl rfl rfl)) (ad_cons (ED.d (ed_var 5)) (ad_cons (ED.d (ed_var 3)) ad_nil)))) ed_int)) (DD.e (dd_add (DD.e (dd_b1 bLen (by rfl) T.n_len (by decide +kernel) (ed_var 2))) ed_int))))
    (bd_one (sd_set (i := 2) sc.nd rfl (by first | exact Or.inl rfl | exact Or.inr rfl) (dd_add (DD.e (dd_add (DD.e (dd_add (DD.e (dd_sl (ed_var 2) od_none (od_some (ed_var 6)))) (DD.e (dd_ix (EN.e (en_lst (ad_cons (ED.d ed_str) (ad_cons (ED.d ed_str) ad_nil)))) (DD.e (dd_mod (DD.e (dd_div (ed_var 5) ed_int)) ed_int)) (fun _ _ => rfl))))) (DD.e (dd_fn h_F__law_odd (hr.mono (by decide)) (by rfl) (pol_of (L2N.takes_of rfl rfl rfl rfl)) (ad_cons (dd_div (DD.e (dd_fn h_F__law_mixed (hr.mono (by decide)) (by rfl) (pol_of (L2N.takes_of rfl rfl rfl rfl)) (ad_cons (ED.d (ed_var 5)) (ad_cons (dd_add ed_int (ed_var 3)) ad_nil)))) ed_int) ad_nil))))) (DD.e (dd_sl (ed_var 2) (od_some (ed_var 6)) od_none)))))))
    (bd_cons (sd_if (td_cmp (cEq hr.units) (DD.e (dd_mod (ed_var 1) ed_int)) ed_int (nomark _)) (bd_one (sd_ret (dd_sl (DD.e (dd_add (DD.e (dd_add (ed_var 2) ed_str)) (DD.e (dd_mulS ed_str ed_int)))) od_none (od_some (DD.e (dd_add ed_int (DD.e (dd_mod (DD.e (dd_div (ed_var 1) ed_int)) ed_int)))))))) bd_nil)
    (bd_one (sd_ret (ED.d (ed_var 2)))))))))) : BD _ _ _ _ den_law_text)⟩
noncomputable def g_law_text : G := runD 7 1 den_law_text
theorem eq_law_text : ∀ ds S, g_law_text ds S ≠ .no → runD 7 1 den_law_text ds S = g_law_text ds S := fun _ _ _ => rfl

theorem enu_at {ds : List D} {j : Nat} {d : D} (h : (enuD ds)[j]? = some d) : ∃ x, ds[j]? = some x ∧ d = .tup [.v (.int (j : Nat)), x] := by
  unfold enuD at h
  rw [List.getElem?_map] at h
  obtain ⟨k, hk, rfl⟩ := Option.map_eq_some_iff.mp h
  obtain ⟨h1, h2⟩ := List.getElem?_eq_some_iff.mp hk
  simp at h1 h2
  subst h2
  exact ⟨ds[j], List.getElem?_eq_getElem h1, by rw [List.getD_eq_getElem?_getD, List.getElem?_eq_getElem h1]; rfl⟩
theorem itF_invL {dg : D → M Unit} {db : M Fl} {Inv : Nat → Stt → Prop} (ds : List D) (c : Stt) (h : Inv 0 c) (t : ∀ (j : Nat) (d : D) (c : Stt), ds[j]? = some d → Inv j c → ∃ c1, dg d c = .ok () c1 ∧ ∃ c2, db c1 = .ok .nx c2 ∧ Inv (j + 1) c2) : ∃ c', itF dg db ds c = .ok .nx c' ∧ Inv ds.length c' := by
  obtain ⟨c', e, q⟩ := itF_inv (Inv := Inv) ds 0 c h fun j d c hj hc => by
    rw [Nat.zero_add] at hc
    obtain ⟨c1, e1, c2, e2, h2⟩ := t j d c hj hc
    exact ⟨c1, e1, .nx, c2, e2, .inl rfl, by rw [Nat.zero_add]; exact h2⟩
  exact ⟨c', e, by rwa [Nat.zero_add] at q⟩

def EXIT : Str := Str.ofString "exit a, then 3 . "
theorem exit_mul : MulOk (Str.ofString "exit a, then 3 . ") 360 ∧ (Txt.mul (Str.ofString "exit a, then 3 . ") 360).length = 6120 := by
  have l : (Str.ofString "exit a, then 3 . ").length = 17 := by decide +kernel
  refine ⟨⟨by decide, fun _ _ => by rw [l]; decide, fun _ _ => by rw [l]; decide⟩, ?_⟩
  have e := PyProof.Rows.len_mul (Str.ofString "exit a, then 3 . ") 360
  rw [l] at e
  have : (if decide ((360 : Int) < 0) = true then (0 : Int) else 360) = 360 := rfl
  rw [this] at e
  omega
theorem text_step (t : Str) (k x : Int) (hk : k.natAbs < 2 ^ 64) (ht : t.length ≤ 100000) (x0 x1 x5 : Slot) (S : List Cell) : ∃ t' : Str, t'.length ≤ t.length + 22 ∧ ∃ y5, flaw_text2b ⟨[x0, x1, .d (sD t), .d (.v (.int k)), .d (.v (.int x)), x5, .no], S⟩ = .ok .nx ⟨[x0, x1, .d (sD t'), .d (.v (.int k)), .d (.v (.int x)), y5, .no], S⟩ := by
  have g := gx x k S hk
  have d7 : divOk 7 := divOk_s (by decide) (by decide)
  have d8 : divOk 8 := divOk_s (by decide) (by decide)
  obtain ⟨w, hw, e1⟩ := piece_ok (((mixed x k).fdiv 7).fdiv 8) S
  obtain ⟨_, ⟨b, rfl, hb⟩, e2⟩ := pickP (c := (mixed x k).fdiv 7) (m := 8) (by decide) (by decide) (shD_all 2 [Str.ofString " ", Str.ofString "\n", Str.ofString "  ", Str.ofString " ", Str.ofString "\n ", Str.ofString " ", Str.ofString " ", Str.ofString ""] (by decide +kernel))
  simp only [Ss, List.map_cons, List.map_nil] at e2
  have l1 := str_app_len t w
  have l2 := str_app_len (t ++ w) b
  have c1 : (t.length + w.length ≤ 1000000) = True := eq_true (by omega)
  have c2 : ((t ++ w).length + b.length ≤ 1000000) = True := eq_true (by omega)
  refine ⟨t ++ w ++ b, by omega, .d (.v (.int ((mixed x k).fdiv 7))), ?_⟩
  simp only [flaw_text2b, runD, dD, dNil, dCons, dAnd, dOr, dNotT, dAndV, dOrV, dNotV, dIf, dTru, dCmpT, dSeq, dRet, dSet, dSetN, dIfS, dNx, dDrop, dOp, dNeg, dTup, dLst, dC, dK, dVar, okD, okN, frz, dCall, ofF, dAug, dPar, dApp, dChain, dListOf, dSlL, dRev,
  M.bind, M.pure, M.no, M.ne, dName, dUnit, dConsG, dTupG, gOr, gI, gS, gAdd, gSubI, gMul, gDiv, gMod, gPow, gIx, gLen, gAbs, gInt1, gSum, gAll, gAny, gMaxL, gMinL, gTupOf, g2I, gDm, gPart, gTru, gBool, gBoolO, gEq_pair, gEq_ints, gEq_sl1, gEq_sl2, opL, gEq_int, gEq_str, gEq_bl, gEq_non, gNone, gIn, gSign, gCat, gRep, gIsi,
  iLt, iLe, iGt, iGe, My.isNon, truD, tagD, seqD, lstD, rdlD, mutD, putL, tupD, vsD, rng1X, rng2X, enuX, zipX, seqX,
  Option.bind, Option.map, Option.bind_some, Option.map_some,
  List.map_cons, List.map_nil, List.length_cons, List.length_nil, List.nil_append, List.cons_append, List.replicate, List.getElem?_cons_zero, List.getElem?_cons_succ, List.set_cons_zero, List.set_cons_succ, List.append_nil,
  if_true, if_false, ite_true, ite_false, Nat.reduceAdd, Int.reduceToNat, Int.reducePow, Nat.reducePow, Int.reduceMul, Int.reduceAdd, Int.reduceSub, Int.reduceLT, Int.reduceLE, Nat.reduceMul, Int.cast_ofNat_Int, Nat.reduceSub, Nat.reduceLT, Nat.reduceLeDiff, ne_eq, reduceCtorEq, not_false_eq_true, not_true_eq_false, Int.reduceEq, Int.reduceNeg, Bool.false_eq_true, Bool.not_true, Bool.not_false, decide_true, decide_false, true_and, and_true, false_and, and_false, or_true, true_or, or_false, false_or, id_eq, Bool.true_eq_false, decide_eq_true_eq, Bool.not_eq_true', decide_eq_false_iff_not, Bool.not_not, blsD, List.all_cons, List.all_nil, List.any_cons, List.any_nil, Bool.and_self, Bool.and_true, Bool.or_false, dFor, dLc, itL, wipeD, backD, isi_NoneType_bool, isi_NoneType_int, isi_NoneType_str, isi_NoneType_tuple, isi_NoneType_list, isi_NoneType_dict, isi_bool_bool, isi_bool_int, isi_bool_str, isi_bool_tuple, isi_bool_list, isi_bool_dict, isi_int_bool, isi_int_int, isi_int_str, isi_int_tuple, isi_int_list, isi_int_dict, isi_str_bool, isi_str_int, isi_str_str, isi_str_tuple, isi_str_list, isi_str_dict, isi_tuple_bool, isi_tuple_int, isi_tuple_str, isi_tuple_tuple, isi_tuple_list, isi_tuple_dict, isi_list_bool, isi_list_int, isi_list_str, isi_list_tuple, isi_list_list, isi_list_dict, isi_dict_bool, isi_dict_int, isi_dict_str, isi_dict_tuple, isi_dict_list, isi_dict_dict, dSlD, dCatN, dLcA, dLcX, dForA, dForX, gStr1, gIsiS, tagS, dJoinS, dIsStr, strsO, gStrA, dRaiseF, dPut, g, d7, d8, e1, e2, c1, c2]
theorem text_odd (t : Str) (m k : Int) (hk : 0 ≤ k ∧ k < 2) (ht : t.length ≤ 100000) (x0 x1 x4 x6 : Slot) (S : List Cell) : ∃ t' : Str, t'.length ≤ 2 * t.length + 12 ∧ ∃ y6, flaw_text1b ⟨[x0, x1, .d (sD t), .d (.v (.int k)), x4, .d (.v (.int m)), x6], S⟩ = .ok .nx ⟨[x0, x1, .d (sD t'), .d (.v (.int k)), x4, .d (.v (.int m)), y6], S⟩ := by
  have g := gx m k S (by omega)
  have g2 := gx m (50 + k) S (by omega)
  have d7 : divOk 7 := divOk_s (by decide) (by decide)
  have d4 : divOk 4 := divOk_s (by decide) (by decide)
  have d2 : divOk 2 := divOk_s (by decide) (by decide)
  have dt : divOk ((t.length : Int) + 1) := divOk_s (by omega) (by omega)
  have dz : ((t.length : Int) + 1 = 0) = False := eq_false (by omega)
  have tz : (t.length ≤ 1000000) = True := eq_true (by omega)
  obtain ⟨w, hw, e1⟩ := odd_ok ((mixed m (50 + k)).fdiv 7) S
  obtain ⟨_, ⟨b, rfl, hb⟩, e2⟩ := pickP (c := m.fdiv 4) (m := 2) (by decide) (by decide) (shD_all 1 [Str.ofString " ", Str.ofString ""] (by decide +kernel))
  simp only [Ss, List.map_cons, List.map_nil] at e2
  generalize ha : ((mixed m k).fdiv 7).fmod ((t.length : Int) + 1) = a
  have l0 := cut_le t none (some a)
  have l9 := cut_le t (some a) none
  generalize hp : cutS t none (some a) = p at l0
  generalize hq : cutS t (some a) none = q at l9
  have l1 := str_app_len p b
  have l2 := str_app_len (p ++ b) w
  have l3 := str_app_len (p ++ b ++ w) q
  have c1 : (p.length + b.length ≤ 1000000) = True := eq_true (by omega)
  have c2 : ((p ++ b).length + w.length ≤ 1000000) = True := eq_true (by omega)
  have c3 : ((p ++ b ++ w).length + q.length ≤ 1000000) = True := eq_true (by omega)
  refine ⟨p ++ b ++ w ++ q, by omega, .d (.v (.int a)), ?_⟩
  simp only [flaw_text1b, runD, dD, dNil, dCons, dAnd, dOr, dNotT, dAndV, dOrV, dNotV, dIf, dTru, dCmpT, dSeq, dRet, dSet, dSetN, dIfS, dNx, dDrop, dOp, dNeg, dTup, dLst, dC, dK, dVar, okD, okN, frz, dCall, ofF, dAug, dPar, dApp, dChain, dListOf, dSlL, dRev,
  M.bind, M.pure, M.no, M.ne, dName, dUnit, dConsG, dTupG, gOr, gI, gS, gAdd, gSubI, gMul, gDiv, gMod, gPow, gIx, gLen, gAbs, gInt1, gSum, gAll, gAny, gMaxL, gMinL, gTupOf, g2I, gDm, gPart, gTru, gBool, gBoolO, gEq_pair, gEq_ints, gEq_sl1, gEq_sl2, opL, gEq_int, gEq_str, gEq_bl, gEq_non, gNone, gIn, gSign, gCat, gRep, gIsi,
  iLt, iLe, iGt, iGe, My.isNon, truD, tagD, seqD, lstD, rdlD, mutD, putL, tupD, vsD, rng1X, rng2X, enuX, zipX, seqX,
  Option.bind, Option.map, Option.bind_some, Option.map_some,
  List.map_cons, List.map_nil, List.length_cons, List.length_nil, List.nil_append, List.cons_append, List.replicate, List.getElem?_cons_zero, List.getElem?_cons_succ, List.set_cons_zero, List.set_cons_succ, List.append_nil,
  if_true, if_false, ite_true, ite_false, Nat.reduceAdd, Int.reduceToNat, Int.reducePow, Nat.reducePow, Int.reduceMul, Int.reduceAdd, Int.reduceSub, Int.reduceLT, Int.reduceLE, Nat.reduceMul, Int.cast_ofNat_Int, Nat.reduceSub, Nat.reduceLT, Nat.reduceLeDiff, ne_eq, reduceCtorEq, not_false_eq_true, not_true_eq_false, Int.reduceEq, Int.reduceNeg, Bool.false_eq_true, Bool.not_true, Bool.not_false, decide_true, decide_false, true_and, and_true, false_and, and_false, or_true, true_or, or_false, false_or, id_eq, Bool.true_eq_false, decide_eq_true_eq, Bool.not_eq_true', decide_eq_false_iff_not, Bool.not_not, blsD, List.all_cons, List.all_nil, List.any_cons, List.any_nil, Bool.and_self, Bool.and_true, Bool.or_false, dFor, dLc, itL, wipeD, backD, isi_NoneType_bool, isi_NoneType_int, isi_NoneType_str, isi_NoneType_tuple, isi_NoneType_list, isi_NoneType_dict, isi_bool_bool, isi_bool_int, isi_bool_str, isi_bool_tuple, isi_bool_list, isi_bool_dict, isi_int_bool, isi_int_int, isi_int_str, isi_int_tuple, isi_int_list, isi_int_dict, isi_str_bool, isi_str_int, isi_str_str, isi_str_tuple, isi_str_list, isi_str_dict, isi_tuple_bool, isi_tuple_int, isi_tuple_str, isi_tuple_tuple, isi_tuple_list, isi_tuple_dict, isi_list_bool, isi_list_int, isi_list_str, isi_list_tuple, isi_list_list, isi_list_dict, isi_dict_bool, isi_dict_int, isi_dict_str, isi_dict_tuple, isi_dict_list, isi_dict_dict, dSlD, dCatN, dLcA, dLcX, dForA, dForX, gStr1, gIsiS, tagS, dJoinS, dIsStr, strsO, gStrA, dRaiseF, dPut, g, g2, d7, d4, d2, dt, dz, tz, e1, e2, ha, hp, hq, c1, c2, c3]
theorem text_ok (ns : List Int) (h : ns.length ≤ 63) (S : List Cell) : ∃ t : Str, t.length ≤ 20000 ∧ g_law_text [scr ns] S = .ok (sD t) S := by
  have g0 := gc ns 0 S (by decide)
  generalize ns.getD (0 : Int).toNat 0 = f at g0
  have cl := cutL_map I ns (some 1) (some 31)
  generalize hz : cutL ns (some 1) (some 31) = zs at cl
  have lz : zs.length ≤ 63 := by
    rw [← hz]
    unfold cutL
    simp only [List.length_take, List.length_drop]
    omega
  obtain ⟨c', e, t, x3, x4, x5, rfl, ht⟩ := itF_invL (dg := dTupG 2 (dConsG (dName 3) (dConsG (dName 4) dUnit))) (db := flaw_text2b) (Inv := fun j c' => ∃ (t : Str), ∃ x3 x4 x5 : Slot, c' = ⟨[.d (scr ns), .d (.v (.int f)), .d (sD t), x3, x4, x5, .no], S⟩ ∧ t.length ≤ 22 * j) (enuD (zs.map I)) ⟨[.d (scr ns), .d (.v (.int f)), .d (sD (Str.ofString "")), .no, .no, .no, .no], S⟩ ⟨_, _, _, _, rfl, by decide +kernel⟩ (by
    rintro j d _ hd ⟨t, x3, x4, x5, rfl, ht⟩
    obtain ⟨x, hx, rfl⟩ := enu_at hd
    rw [List.getElem?_map] at hx
    obtain ⟨z, hz, rfl⟩ := Option.map_eq_some_iff.mp hx
    have hj := (List.getElem?_eq_some_iff.mp hz).1
    obtain ⟨t', ht', y5, e⟩ := text_step t (j : Nat) z (by omega) (by omega) (.d (scr ns)) (.d (.v (.int f))) x5 S
    exact ⟨⟨[.d (scr ns), .d (.v (.int f)), .d (sD t), .d (.v (.int (j : Nat))), .d (.v (.int z)), x5, .no], S⟩, rfl, _, e, t', _, _, _, rfl, by omega⟩)
  have le : (enuD (zs.map I)).length = zs.length := by simp [enuD]
  rw [le] at ht
  have g1 := gx f 41 S (by decide)
  generalize mixed f 41 = m0 at g1
  have d7 : divOk 7 := divOk_s (by decide) (by decide)
  have d4 : divOk 4 := divOk_s (by decide) (by decide)
  have d16 : divOk 16 := divOk_s (by decide) (by decide)
  have d21 : divOk 21 := divOk_s (by decide) (by decide)
  generalize hm : m0.fdiv 7 = m
  obtain ⟨_, ⟨n, rfl, hn0, hn⟩, en⟩ := pickP (P := SzD 2) (c := m) (m := 4) (xs := [.v (.int 0), .v (.int 0), .v (.int 1), .v (.int 2)]) (by decide) (by decide) (fun x hx => by
    simp only [List.mem_cons, List.not_mem_nil, or_false] at hx
    rcases hx with rfl | rfl | rfl | rfl
    · exact ⟨0, rfl, by decide, by decide⟩
    · exact ⟨0, rfl, by decide, by decide⟩
    · exact ⟨1, rfl, by decide, by decide⟩
    · exact ⟨2, rfl, by decide, by decide⟩)
  have r1 : ((-4611686018427387904 : Int) ≤ n) = True := eq_true (by omega)
  have r2 : (n.toNat < 4611686018427387904) = True := eq_true (by omega)
  obtain ⟨c', e2, u, y3, y6, rfl, hu⟩ := itF_invL (dg := dName 3) (db := flaw_text1b) (Inv := fun j c' => ∃ (t : Str), ∃ x3 x6 : Slot, c' = ⟨[.d (scr ns), .d (.v (.int f)), .d (sD t), x3, x4, .d (.v (.int m)), x6], S⟩ ∧ (j ≤ 2 → t.length ≤ (if j = 0 then 1386 else if j = 1 then 2784 else 5580))) (rngD 0 n.toNat) ⟨[.d (scr ns), .d (.v (.int f)), .d (sD t), x3, x4, .d (.v (.int m)), .no], S⟩ ⟨_, _, _, rfl, fun _ => by rw [if_pos rfl]; omega⟩ (by
    rintro j d _ hd ⟨t, x3, x6, rfl, ht⟩
    obtain ⟨hj, rfl⟩ : (j : Int) < n ∧ d = .v (.int (j : Int)) := by
      unfold rngD at hd
      rw [List.getElem?_map] at hd
      obtain ⟨k, hk, rfl⟩ := Option.map_eq_some_iff.mp hd
      obtain ⟨h1, h2⟩ := List.getElem?_eq_some_iff.mp hk
      simp at h1 h2
      subst h2
      exact ⟨by omega, by simp⟩
    have ht := ht (by omega)
    have q : t.length ≤ 2784 := by
      split at ht
      · omega
      · split at ht <;> omega
    obtain ⟨t', ht', y6, e⟩ := text_odd t m (j : Int) (by omega) (by omega) (.d (scr ns)) (.d (.v (.int f))) x4 x6 S
    refine ⟨⟨[.d (scr ns), .d (.v (.int f)), .d (sD t), .d (.v (.int (j : Int))), x4, .d (.v (.int m)), x6], S⟩, rfl, _, e, t', _, _, rfl, fun _ => ?_⟩
    have : j = 0 ∨ j = 1 := by omega
    rcases this with rfl | rfl
    · simp at ht ⊢
      omega
    · simp at ht ⊢
      omega)
  rw [rng_len] at hu
  have hu : u.length ≤ 5580 := by
    have := hu (by omega)
    split at this
    · omega
    · split at this <;> omega
  have sc : scr ns = .scr (ns.map I) := rfl
  rw [sc] at g0 e e2
  rw [sc]
  by_cases h1 : f.fmod 16 = 1
  · obtain ⟨ek, el⟩ := exit_mul
    have l1 := str_app_len u (Str.ofString " ")
    have lb : (Str.ofString " ").length = 1 := by decide +kernel
    have l2 := str_app_len (u ++ Str.ofString " ") (Txt.mul (Str.ofString "exit a, then 3 . ") 360)
    have c1 : (u.length + (Str.ofString " ").length ≤ 1000000) = True := eq_true (by omega)
    have c2 : ((u ++ Str.ofString " ").length + (Txt.mul (Str.ofString "exit a, then 3 . ") 360).length ≤ 1000000) = True := eq_true (by omega)
    have c3 : ((u ++ Str.ofString " " ++ Txt.mul (Str.ofString "exit a, then 3 . ") 360).length ≤ 1000000) = True := eq_true (by omega)
    refine ⟨cutS (u ++ Str.ofString " " ++ Txt.mul (Str.ofString "exit a, then 3 . ") 360) none (some (5990 + (f.fdiv 16).fmod 21)), Nat.le_trans (cut_le _ _ _) (by omega), ?_⟩
    simp only [g_law_text, den_law_text, runD, dD, dNil, dCons, dAnd, dOr, dNotT, dAndV, dOrV, dNotV, dIf, dTru, dCmpT, dSeq, dRet, dSet, dSetN, dIfS, dNx, dDrop, dOp, dNeg, dTup, dLst, dC, dK, dVar, okD, okN, frz, dCall, ofF, dAug, dPar, dApp, dChain, dListOf, dSlL, dRev,
  M.bind, M.pure, M.no, M.ne, dName, dUnit, dConsG, dTupG, gOr, gI, gS, gAdd, gSubI, gMul, gDiv, gMod, gPow, gIx, gLen, gAbs, gInt1, gSum, gAll, gAny, gMaxL, gMinL, gTupOf, g2I, gDm, gPart, gTru, gBool, gBoolO, gEq_pair, gEq_ints, gEq_sl1, gEq_sl2, opL, gEq_int, gEq_str, gEq_bl, gEq_non, gNone, gIn, gSign, gCat, gRep, gIsi,
  iLt, iLe, iGt, iGe, My.isNon, truD, tagD, seqD, lstD, rdlD, mutD, putL, tupD, vsD, rng1X, rng2X, enuX, zipX, seqX,
  Option.bind, Option.map, Option.bind_some, Option.map_some,
  List.map_cons, List.map_nil, List.length_cons, List.length_nil, List.nil_append, List.cons_append, List.replicate, List.getElem?_cons_zero, List.getElem?_cons_succ, List.set_cons_zero, List.set_cons_succ, List.append_nil,
  if_true, if_false, ite_true, ite_false, Nat.reduceAdd, Int.reduceToNat, Int.reducePow, Nat.reducePow, Int.reduceMul, Int.reduceAdd, Int.reduceSub, Int.reduceLT, Int.reduceLE, Nat.reduceMul, Int.cast_ofNat_Int, Nat.reduceSub, Nat.reduceLT, Nat.reduceLeDiff, ne_eq, reduceCtorEq, not_false_eq_true, not_true_eq_false, Int.reduceEq, Int.reduceNeg, Bool.false_eq_true, Bool.not_true, Bool.not_false, decide_true, decide_false, true_and, and_true, false_and, and_false, or_true, true_or, or_false, false_or, id_eq, Bool.true_eq_false, decide_eq_true_eq, Bool.not_eq_true', decide_eq_false_iff_not, Bool.not_not, blsD, List.all_cons, List.all_nil, List.any_cons, List.any_nil, Bool.and_self, Bool.and_true, Bool.or_false, dFor, dLc, itL, wipeD, backD, isi_NoneType_bool, isi_NoneType_int, isi_NoneType_str, isi_NoneType_tuple, isi_NoneType_list, isi_NoneType_dict, isi_bool_bool, isi_bool_int, isi_bool_str, isi_bool_tuple, isi_bool_list, isi_bool_dict, isi_int_bool, isi_int_int, isi_int_str, isi_int_tuple, isi_int_list, isi_int_dict, isi_str_bool, isi_str_int, isi_str_str, isi_str_tuple, isi_str_list, isi_str_dict, isi_tuple_bool, isi_tuple_int, isi_tuple_str, isi_tuple_tuple, isi_tuple_list, isi_tuple_dict, isi_list_bool, isi_list_int, isi_list_str, isi_list_tuple, isi_list_list, isi_list_dict, isi_dict_bool, isi_dict_int, isi_dict_str, isi_dict_tuple, isi_dict_list, isi_dict_dict, dSlD, dCatN, dLcA, dLcX, dForA, dForX, gStr1, gIsiS, tagS, dJoinS, dIsStr, strsO, gStrA, dRaiseF, dPut, gMulS, enKX, seqKD, g0, cl, hz, e, g1, d7, hm, d4, en, r1, r2, e2, h1, d16, d21, ek, c1, c2, c3]
  · refine ⟨u, by omega, ?_⟩
    simp only [g_law_text, den_law_text, runD, dD, dNil, dCons, dAnd, dOr, dNotT, dAndV, dOrV, dNotV, dIf, dTru, dCmpT, dSeq, dRet, dSet, dSetN, dIfS, dNx, dDrop, dOp, dNeg, dTup, dLst, dC, dK, dVar, okD, okN, frz, dCall, ofF, dAug, dPar, dApp, dChain, dListOf, dSlL, dRev,
  M.bind, M.pure, M.no, M.ne, dName, dUnit, dConsG, dTupG, gOr, gI, gS, gAdd, gSubI, gMul, gDiv, gMod, gPow, gIx, gLen, gAbs, gInt1, gSum, gAll, gAny, gMaxL, gMinL, gTupOf, g2I, gDm, gPart, gTru, gBool, gBoolO, gEq_pair, gEq_ints, gEq_sl1, gEq_sl2, opL, gEq_int, gEq_str, gEq_bl, gEq_non, gNone, gIn, gSign, gCat, gRep, gIsi,
  iLt, iLe, iGt, iGe, My.isNon, truD, tagD, seqD, lstD, rdlD, mutD, putL, tupD, vsD, rng1X, rng2X, enuX, zipX, seqX,
  Option.bind, Option.map, Option.bind_some, Option.map_some,
  List.map_cons, List.map_nil, List.length_cons, List.length_nil, List.nil_append, List.cons_append, List.replicate, List.getElem?_cons_zero, List.getElem?_cons_succ, List.set_cons_zero, List.set_cons_succ, List.append_nil,
  if_true, if_false, ite_true, ite_false, Nat.reduceAdd, Int.reduceToNat, Int.reducePow, Nat.reducePow, Int.reduceMul, Int.reduceAdd, Int.reduceSub, Int.reduceLT, Int.reduceLE, Nat.reduceMul, Int.cast_ofNat_Int, Nat.reduceSub, Nat.reduceLT, Nat.reduceLeDiff, ne_eq, reduceCtorEq, not_false_eq_true, not_true_eq_false, Int.reduceEq, Int.reduceNeg, Bool.false_eq_true, Bool.not_true, Bool.not_false, decide_true, decide_false, true_and, and_true, false_and, and_false, or_true, true_or, or_false, false_or, id_eq, Bool.true_eq_false, decide_eq_true_eq, Bool.not_eq_true', decide_eq_false_iff_not, Bool.not_not, blsD, List.all_cons, List.all_nil, List.any_cons, List.any_nil, Bool.and_self, Bool.and_true, Bool.or_false, dFor, dLc, itL, wipeD, backD, isi_NoneType_bool, isi_NoneType_int, isi_NoneType_str, isi_NoneType_tuple, isi_NoneType_list, isi_NoneType_dict, isi_bool_bool, isi_bool_int, isi_bool_str, isi_bool_tuple, isi_bool_list, isi_bool_dict, isi_int_bool, isi_int_int, isi_int_str, isi_int_tuple, isi_int_list, isi_int_dict, isi_str_bool, isi_str_int, isi_str_str, isi_str_tuple, isi_str_list, isi_str_dict, isi_tuple_bool, isi_tuple_int, isi_tuple_str, isi_tuple_tuple, isi_tuple_list, isi_tuple_dict, isi_list_bool, isi_list_int, isi_list_str, isi_list_tuple, isi_list_list, isi_list_dict, isi_dict_bool, isi_dict_int, isi_dict_str, isi_dict_tuple, isi_dict_list, isi_dict_dict, dSlD, dCatN, dLcA, dLcX, dForA, dForX, gStr1, gIsiS, tagS, dJoinS, dIsStr, strsO, gStrA, dRaiseF, dPut, gMulS, enKX, seqKD, g0, cl, hz, e, g1, d7, hm, d4, en, r1, r2, e2, h1, d16]
theorem ok_law_text (T : Tx K mg Env.HallError Env.BadSign Env.BadText Env.BadName Env.BadNumber Env.BadRing Env.BadLoan Env.TooMany Env.NoDoor Env.BadChange Env.BadKept) (h_F__law_cell_at : Okf P w K mg base 1 "_law_cell_at" ["_law_script", "_law_k"] g_law_cell_at) (h_F__law_mixed : Okf P w K mg base 1 "_law_mixed" ["_law_cell", "_law_k"] g_law_mixed) (h_F__law_odd : Okf P w K mg base 1 "_law_odd" ["_law_cell"] g_law_odd) (h_F__law_piece : Okf P w K mg base 2 "_law_piece" ["_law_cell"] g_law_piece) : Okf P w K mg base 3 "_law_text" ["_law_script"] g_law_text := (raw_law_text T h_F__law_cell_at h_F__law_mixed h_F__law_odd h_F__law_piece).by eq_law_text
abbrev sword_from : Stmt := (top 21)
abbrev Nword_from : List Str := ["text", "at", "run"]
theorem scword_from : FnScope Nword_from ["text", "at"] (defScope sword_from) := ⟨rfl, rfl, rfl, by decide +kernel, rfl, by decide +kernel, by decide +kernel⟩
noncomputable def den_word_from : M Fl :=
    (dSeq (dSet 2 (dCall g_run_of (dCons (dD (dVar 0)) (dCons (dD (dVar 1)) (dCons (dD (dK k_LETTERS)) dNil)))))
    (dSeq (dIfS (M.bind (dChain (gI iLe) (gI iLe) (dC (.int 1)) (okD (M.bind (dVar 2) gLen)) (dK k_MOST_LETTERS)) gBool) (dRet (dD (dVar 2))) dNx)
    (dSeq (dSet 2 (dCall g_run_of (dCons (dD (dVar 0)) (dCons (dD (dVar 1)) (dCons (dD (dK k_FIGURES)) dNil)))))
    (dSeq (dIfS (dAnd (M.bind (dChain (gI iLe) (gI iLe) (dC (.int 1)) (okD (M.bind (dVar 2) gLen)) (dK k_MOST_FIGURES)) gBool) (dOr (dCmpT (gEq false) (dVar 2) (dC (.str "0"))) (dCmpT (gEq true) (okD (dOp gIx (dVar 2) (dC (.int 0)))) (dC (.str "0"))))) (dRet (dD (dVar 2))) dNx)
    (dSeq (dIfS (dCmpT (gOr (gIn true) (gSign true)) (okD (dOp gIx (dVar 0) (dVar 1))) (okD (dTup (dCons (dD (dC (.str "."))) (dCons (dD (dC (.str ","))) dNil))))) (dRaiseF Env.BadSign "spot" (dD (dVar 1))) dNx)
    (dRet (dOp gIx (dVar 0) (dVar 1))))))))
theorem raw_word_from (T : Tx K mg Env.HallError Env.BadSign Env.BadText Env.BadName Env.BadNumber Env.BadRing Env.BadLoan Env.TooMany Env.NoDoor Env.BadChange Env.BadKept) (h_F_run_of : Okf P w K mg base 1 "run_of" ["text", "at", "signs"] g_run_of) (h_X_BadSign : OkX P w K mg base "BadSign" Env.BadSign "spot") : Okf P w K mg base 3 "word_from" ["text", "at"] (runD 3 2 den_word_from) := by
  have sc := scword_from
  exact ok_has (N := Nword_from) T.d_word_from sc rfl (by decide) fun f cdv A outer s H E hr => ⟨_, ((bd_cons (sd_set (i := 2) sc.nd rfl (by first | exact Or.inl rfl | exact Or.inr rfl) (dd_fn h_F_run_of (hr.mono (by decide)) (by rfl) (pol_of (L2N.takes_of rfl rfl rfl rfl)) (ad_cons (ED.d (ed_var 0)) (ad_cons (ED.d (ed_var 1)) (ad_cons (ED.d (ed_globV (by rfl) T.kc_LETTERS)) ad_nil)))))
    (bd_cons (sd_if (td_chain cLe cLe ed_int (DD.e (dd_b1 bLen (by rfl) T.n_len (by decide +kernel) (ed_var 2))) (ed_globV (by rfl) T.kc_MOST_LETTERS)) (bd_one (sd_ret (ED.d (ed_var 2)))) bd_nil)
    (bd_cons (sd_set (i := 2) sc.nd rfl (by first | exact Or.inl rfl | exact Or.inr rfl) (dd_fn h_F_run_of (hr.mono (by decide)) (by rfl) (pol_of (L2N.takes_of rfl rfl rfl rfl)) (ad_cons (ED.d (ed_var 0)) (ad_cons (ED.d (ed_var 1)) (ad_cons (ED.d (ed_globV (by rfl) T.kc_FIGURES)) ad_nil)))))
    (bd_cons (sd_if (td_w (wd_and (td_chain cLe cLe ed_int (DD.e (dd_b1 bLen (by rfl) T.n_len (by decide +kernel) (ed_var 2))) (ed_globV (by rfl) T.kc_MOST_FIGURES)) (wd_and1 (td_w (wd_or (td_cmp (cEq hr.units) (ed_var 2) ed_str (nomark _)) (wd_or1 (td_cmp (cNe hr.units) (DD.e (dd_ix (ed_var 2) ed_int (fun _ _ => rfl))) ed_str (nomark _)))))))) (bd_one (sd_ret (ED.d (ed_var 2)))) bd_nil)
    (bd_cons (sd_if (td_cmp cNotIn (DD.e (dd_ix (ed_var 0) (ed_var 1) (fun _ _ => rfl))) (DD.e (dd_tup (ad_cons (ED.d ed_str) (ad_cons (ED.d ed_str) ad_nil)))) rfl) (bd_one (sd_raiseF h_X_BadSign (hr.mono (by decide)) rfl (L2N.takes_of rfl rfl rfl rfl) (by rfl) (ED.d (ed_var 1)))) bd_nil)
    (bd_one (sd_ret (dd_ix (ed_var 0) (ed_var 1) (fun _ _ => rfl))))))))) : BD _ _ _ _ den_word_from)⟩
noncomputable def g_word_from : G := runD 3 2 den_word_from
theorem eq_word_from : ∀ ds S, g_word_from ds S ≠ .no → runD 3 2 den_word_from ds S = g_word_from ds S := fun _ _ _ => rfl
theorem wf_ok {t w : Str} {r : List Nat} {a : Int} (h : Dc t a (w.cps.toList ++ r)) (hw : wd w) (h1 : lwd w → ∀ c ∈ r.head?, ¬ isLet c) (h2 : fwd w → ∀ c ∈ r.head?, ¬ isFig c) (hz : t.length ≤ 1000000) (S : List Cell) : g_word_from [sD t, .v (.int a)] S = .ok (sD w) S := by
  obtain ⟨c, cs, hc, k1, k2⟩ := wd_head hw
  have hlt : a < (t.length : Int) := by
    rw [hc] at h
    exact Dc.lt (cs := cs ++ r) h
  have ww : (⟨w.cps.toList.toArray⟩ : Str) = w := str_ext (by simp)
  by_cases hL : lwd w
  · have e1 := run_ok (sg := Str.ofString "abcdefghijklmnopqrstuvwxyz") h (by omega) (fun c hc => (let_mem c).mpr (hL.2.2 c hc)) (fun c hc => fun q => h1 hL c hc ((let_mem c).mp q)) hz S
    rw [ww] at e1
    have l : w.length = w.cps.toList.length := t_len w
    have q1 : (1 : Int) ≤ (w.length : Int) := by have := hL.1; omega
    have q2 : (w.length : Int) ≤ 8 := by have := hL.2.1; omega
    have q3 : w.length ≤ 1000000 := by have := hL.2.1; omega
    simp only [g_word_from, den_word_from, runD, dD, dNil, dCons, dAnd, dOr, dNotT, dAndV, dOrV, dNotV, dIf, dTru, dCmpT, dSeq, dRet, dSet, dSetN, dIfS, dNx, dDrop, dOp, dNeg, dTup, dLst, dC, dK, dVar, okD, okN, frz, dCall, ofF, dAug, dPar, dApp, dChain, dListOf, dSlL, dRev,
  M.bind, M.pure, M.no, M.ne, dName, dUnit, dConsG, dTupG, gOr, gI, gS, gAdd, gSubI, gMul, gDiv, gMod, gPow, gIx, gLen, gAbs, gInt1, gSum, gAll, gAny, gMaxL, gMinL, gTupOf, g2I, gDm, gPart, gTru, gBool, gBoolO, gEq_pair, gEq_ints, gEq_sl1, gEq_sl2, opL, gEq_int, gEq_str, gEq_bl, gEq_non, gNone, gIn, gSign, gCat, gRep, gIsi,
  iLt, iLe, iGt, iGe, My.isNon, truD, tagD, seqD, lstD, rdlD, mutD, putL, tupD, vsD, rng1X, rng2X, enuX, zipX, seqX,
  Option.bind, Option.map, Option.bind_some, Option.map_some,
  List.map_cons, List.map_nil, List.length_cons, List.length_nil, List.nil_append, List.cons_append, List.replicate, List.getElem?_cons_zero, List.getElem?_cons_succ, List.set_cons_zero, List.set_cons_succ, List.append_nil,
  if_true, if_false, ite_true, ite_false, Nat.reduceAdd, Int.reduceToNat, Int.reducePow, Nat.reducePow, Int.reduceMul, Int.reduceAdd, Int.reduceSub, Int.reduceLT, Int.reduceLE, Nat.reduceMul, Int.cast_ofNat_Int, Nat.reduceSub, Nat.reduceLT, Nat.reduceLeDiff, ne_eq, reduceCtorEq, not_false_eq_true, not_true_eq_false, Int.reduceEq, Int.reduceNeg, Bool.false_eq_true, Bool.not_true, Bool.not_false, decide_true, decide_false, true_and, and_true, false_and, and_false, or_true, true_or, or_false, false_or, id_eq, Bool.true_eq_false, decide_eq_true_eq, Bool.not_eq_true', decide_eq_false_iff_not, Bool.not_not, blsD, List.all_cons, List.all_nil, List.any_cons, List.any_nil, Bool.and_self, Bool.and_true, Bool.or_false, dFor, dLc, itL, wipeD, backD, isi_NoneType_bool, isi_NoneType_int, isi_NoneType_str, isi_NoneType_tuple, isi_NoneType_list, isi_NoneType_dict, isi_bool_bool, isi_bool_int, isi_bool_str, isi_bool_tuple, isi_bool_list, isi_bool_dict, isi_int_bool, isi_int_int, isi_int_str, isi_int_tuple, isi_int_list, isi_int_dict, isi_str_bool, isi_str_int, isi_str_str, isi_str_tuple, isi_str_list, isi_str_dict, isi_tuple_bool, isi_tuple_int, isi_tuple_str, isi_tuple_tuple, isi_tuple_list, isi_tuple_dict, isi_list_bool, isi_list_int, isi_list_str, isi_list_tuple, isi_list_list, isi_list_dict, isi_dict_bool, isi_dict_int, isi_dict_str, isi_dict_tuple, isi_dict_list, isi_dict_dict, k_LETTERS, k_MOST_LETTERS, e1, q1, q2, q3]
  · have nL : ¬ isLet c := fun q => hL (k1 q)
    have e1 := run_ok (sg := Str.ofString "abcdefghijklmnopqrstuvwxyz") (u := []) h (by omega) (fun c hc => absurd hc List.not_mem_nil) (fun x hx => by
      rw [hc] at hx
      have : c = x := by simpa using hx
      subst this
      exact fun q => nL ((let_mem c).mp q)) hz S
    have ee : (⟨([] : List Nat).toArray⟩ : Str) = Str.ofString "" := by decide +kernel
    rw [ee] at e1
    have le : ((Str.ofString "").length : Int) = 0 := rfl
    have le2 : ((Str.ofString "").length ≤ 1000000) := by decide
    have q0 : ¬ ((1 : Int) ≤ 0) := by decide
    by_cases hF : fwd w
    · have e2 := run_ok (sg := Str.ofString "0123456789") h (by omega) (fun c hc => (fig_mem c).mpr (hF.2.2.1 c hc)) (fun c hc => fun q => h2 hF c hc ((fig_mem c).mp q)) hz S
      rw [ww] at e2
      have l : w.length = w.cps.toList.length := t_len w
      have q1 : (1 : Int) ≤ (w.length : Int) := by have := hF.1; omega
      have q2 : (w.length : Int) ≤ 4 := by have := hF.2.1; omega
      have q3 : w.length ≤ 1000000 := by have := hF.2.1; omega
      by_cases h0 : w = Str.ofString "0"
      · have l0 : ((Str.ofString "0").length : Int) = 1 := rfl
        have l1 : (Str.ofString "0").length ≤ 1000000 := by decide
        have q4 : ((1 : Int) ≤ 1) := by decide
        have q5 : ((1 : Int) ≤ 4) := by decide
        subst h0
        simp only [g_word_from, den_word_from, runD, dD, dNil, dCons, dAnd, dOr, dNotT, dAndV, dOrV, dNotV, dIf, dTru, dCmpT, dSeq, dRet, dSet, dSetN, dIfS, dNx, dDrop, dOp, dNeg, dTup, dLst, dC, dK, dVar, okD, okN, frz, dCall, ofF, dAug, dPar, dApp, dChain, dListOf, dSlL, dRev,
  M.bind, M.pure, M.no, M.ne, dName, dUnit, dConsG, dTupG, gOr, gI, gS, gAdd, gSubI, gMul, gDiv, gMod, gPow, gIx, gLen, gAbs, gInt1, gSum, gAll, gAny, gMaxL, gMinL, gTupOf, g2I, gDm, gPart, gTru, gBool, gBoolO, gEq_pair, gEq_ints, gEq_sl1, gEq_sl2, opL, gEq_int, gEq_str, gEq_bl, gEq_non, gNone, gIn, gSign, gCat, gRep, gIsi,
  iLt, iLe, iGt, iGe, My.isNon, truD, tagD, seqD, lstD, rdlD, mutD, putL, tupD, vsD, rng1X, rng2X, enuX, zipX, seqX,
  Option.bind, Option.map, Option.bind_some, Option.map_some,
  List.map_cons, List.map_nil, List.length_cons, List.length_nil, List.nil_append, List.cons_append, List.replicate, List.getElem?_cons_zero, List.getElem?_cons_succ, List.set_cons_zero, List.set_cons_succ, List.append_nil,
  if_true, if_false, ite_true, ite_false, Nat.reduceAdd, Int.reduceToNat, Int.reducePow, Nat.reducePow, Int.reduceMul, Int.reduceAdd, Int.reduceSub, Int.reduceLT, Int.reduceLE, Nat.reduceMul, Int.cast_ofNat_Int, Nat.reduceSub, Nat.reduceLT, Nat.reduceLeDiff, ne_eq, reduceCtorEq, not_false_eq_true, not_true_eq_false, Int.reduceEq, Int.reduceNeg, Bool.false_eq_true, Bool.not_true, Bool.not_false, decide_true, decide_false, true_and, and_true, false_and, and_false, or_true, true_or, or_false, false_or, id_eq, Bool.true_eq_false, decide_eq_true_eq, Bool.not_eq_true', decide_eq_false_iff_not, Bool.not_not, blsD, List.all_cons, List.all_nil, List.any_cons, List.any_nil, Bool.and_self, Bool.and_true, Bool.or_false, dFor, dLc, itL, wipeD, backD, isi_NoneType_bool, isi_NoneType_int, isi_NoneType_str, isi_NoneType_tuple, isi_NoneType_list, isi_NoneType_dict, isi_bool_bool, isi_bool_int, isi_bool_str, isi_bool_tuple, isi_bool_list, isi_bool_dict, isi_int_bool, isi_int_int, isi_int_str, isi_int_tuple, isi_int_list, isi_int_dict, isi_str_bool, isi_str_int, isi_str_str, isi_str_tuple, isi_str_list, isi_str_dict, isi_tuple_bool, isi_tuple_int, isi_tuple_str, isi_tuple_tuple, isi_tuple_list, isi_tuple_dict, isi_list_bool, isi_list_int, isi_list_str, isi_list_tuple, isi_list_list, isi_list_dict, isi_dict_bool, isi_dict_int, isi_dict_str, isi_dict_tuple, isi_dict_list, isi_dict_dict, k_LETTERS, k_MOST_LETTERS, k_FIGURES, k_MOST_FIGURES, e1, e2, le, le2, q0, l0, l1, q4, q5]
      · have a0 : atI w.cps.toList 0 = some c := by
          rw [hc]
          exact at0 _ _
        have n0 : ((⟨#[c]⟩ : Str) = Str.ofString "0") = False := eq_false fun q => by
          have := (one_zero c).mp q
          subst this
          rcases hF.2.2.2 with q | q
          · exact h0 q
          · rw [hc] at q
            exact q rfl
        simp only [g_word_from, den_word_from, runD, dD, dNil, dCons, dAnd, dOr, dNotT, dAndV, dOrV, dNotV, dIf, dTru, dCmpT, dSeq, dRet, dSet, dSetN, dIfS, dNx, dDrop, dOp, dNeg, dTup, dLst, dC, dK, dVar, okD, okN, frz, dCall, ofF, dAug, dPar, dApp, dChain, dListOf, dSlL, dRev,
  M.bind, M.pure, M.no, M.ne, dName, dUnit, dConsG, dTupG, gOr, gI, gS, gAdd, gSubI, gMul, gDiv, gMod, gPow, gIx, gLen, gAbs, gInt1, gSum, gAll, gAny, gMaxL, gMinL, gTupOf, g2I, gDm, gPart, gTru, gBool, gBoolO, gEq_pair, gEq_ints, gEq_sl1, gEq_sl2, opL, gEq_int, gEq_str, gEq_bl, gEq_non, gNone, gIn, gSign, gCat, gRep, gIsi,
  iLt, iLe, iGt, iGe, My.isNon, truD, tagD, seqD, lstD, rdlD, mutD, putL, tupD, vsD, rng1X, rng2X, enuX, zipX, seqX,
  Option.bind, Option.map, Option.bind_some, Option.map_some,
  List.map_cons, List.map_nil, List.length_cons, List.length_nil, List.nil_append, List.cons_append, List.replicate, List.getElem?_cons_zero, List.getElem?_cons_succ, List.set_cons_zero, List.set_cons_succ, List.append_nil,
  if_true, if_false, ite_true, ite_false, Nat.reduceAdd, Int.reduceToNat, Int.reducePow, Nat.reducePow, Int.reduceMul, Int.reduceAdd, Int.reduceSub, Int.reduceLT, Int.reduceLE, Nat.reduceMul, Int.cast_ofNat_Int, Nat.reduceSub, Nat.reduceLT, Nat.reduceLeDiff, ne_eq, reduceCtorEq, not_false_eq_true, not_true_eq_false, Int.reduceEq, Int.reduceNeg, Bool.false_eq_true, Bool.not_true, Bool.not_false, decide_true, decide_false, true_and, and_true, false_and, and_false, or_true, true_or, or_false, false_or, id_eq, Bool.true_eq_false, decide_eq_true_eq, Bool.not_eq_true', decide_eq_false_iff_not, Bool.not_not, blsD, List.all_cons, List.all_nil, List.any_cons, List.any_nil, Bool.and_self, Bool.and_true, Bool.or_false, dFor, dLc, itL, wipeD, backD, isi_NoneType_bool, isi_NoneType_int, isi_NoneType_str, isi_NoneType_tuple, isi_NoneType_list, isi_NoneType_dict, isi_bool_bool, isi_bool_int, isi_bool_str, isi_bool_tuple, isi_bool_list, isi_bool_dict, isi_int_bool, isi_int_int, isi_int_str, isi_int_tuple, isi_int_list, isi_int_dict, isi_str_bool, isi_str_int, isi_str_str, isi_str_tuple, isi_str_list, isi_str_dict, isi_tuple_bool, isi_tuple_int, isi_tuple_str, isi_tuple_tuple, isi_tuple_list, isi_tuple_dict, isi_list_bool, isi_list_int, isi_list_str, isi_list_tuple, isi_list_list, isi_list_dict, isi_dict_bool, isi_dict_int, isi_dict_str, isi_dict_tuple, isi_dict_list, isi_dict_dict, k_LETTERS, k_MOST_LETTERS, k_FIGURES, k_MOST_FIGURES, e1, e2, le, le2, q0, q1, q2, q3, h0, a0, n0]
    · have hP : pwd w := hw.resolve_left hL |>.resolve_left hF
      have nF : ¬ isFig c := fun q => hF (k2 q)
      have e2 := run_ok (sg := Str.ofString "0123456789") (u := []) h (by omega) (fun c hc => absurd hc List.not_mem_nil) (fun x hx => by
        rw [hc] at hx
        have : c = x := by simpa using hx
        subst this
        exact fun q => nF ((fig_mem c).mp q)) hz S
      rw [ee] at e2
      have ha : atI t.cps.toList a = some c := by
        rw [hc] at h
        exact Dc.at (cs := cs ++ r) h
      have wc : w = ⟨#[c]⟩ := by
        apply str_ext
        rw [hc]
        rcases hP with rfl | rfl
        · have e3 : (Str.ofString ".").cps.toList = [46] := by decide +kernel
          rw [e3] at hc
          cases hc
          rfl
        · have e3 : (Str.ofString ",").cps.toList = [44] := by decide +kernel
          rw [e3] at hc
          cases hc
          rfl
      have pin : inV (V.str ⟨#[c]⟩) [V.str (Str.ofString "."), V.str (Str.ofString ",")] = true := by
        rw [← wc]
        refine (inV_Ss w [Str.ofString ".", Str.ofString ","]).trans (decide_eq_true ?_)
        rcases hP with rfl | rfl <;> simp
      rw [wc]
      simp only [g_word_from, den_word_from, runD, dD, dNil, dCons, dAnd, dOr, dNotT, dAndV, dOrV, dNotV, dIf, dTru, dCmpT, dSeq, dRet, dSet, dSetN, dIfS, dNx, dDrop, dOp, dNeg, dTup, dLst, dC, dK, dVar, okD, okN, frz, dCall, ofF, dAug, dPar, dApp, dChain, dListOf, dSlL, dRev,
  M.bind, M.pure, M.no, M.ne, dName, dUnit, dConsG, dTupG, gOr, gI, gS, gAdd, gSubI, gMul, gDiv, gMod, gPow, gIx, gLen, gAbs, gInt1, gSum, gAll, gAny, gMaxL, gMinL, gTupOf, g2I, gDm, gPart, gTru, gBool, gBoolO, gEq_pair, gEq_ints, gEq_sl1, gEq_sl2, opL, gEq_int, gEq_str, gEq_bl, gEq_non, gNone, gIn, gSign, gCat, gRep, gIsi,
  iLt, iLe, iGt, iGe, My.isNon, truD, tagD, seqD, lstD, rdlD, mutD, putL, tupD, vsD, rng1X, rng2X, enuX, zipX, seqX,
  Option.bind, Option.map, Option.bind_some, Option.map_some,
  List.map_cons, List.map_nil, List.length_cons, List.length_nil, List.nil_append, List.cons_append, List.replicate, List.getElem?_cons_zero, List.getElem?_cons_succ, List.set_cons_zero, List.set_cons_succ, List.append_nil,
  if_true, if_false, ite_true, ite_false, Nat.reduceAdd, Int.reduceToNat, Int.reducePow, Nat.reducePow, Int.reduceMul, Int.reduceAdd, Int.reduceSub, Int.reduceLT, Int.reduceLE, Nat.reduceMul, Int.cast_ofNat_Int, Nat.reduceSub, Nat.reduceLT, Nat.reduceLeDiff, ne_eq, reduceCtorEq, not_false_eq_true, not_true_eq_false, Int.reduceEq, Int.reduceNeg, Bool.false_eq_true, Bool.not_true, Bool.not_false, decide_true, decide_false, true_and, and_true, false_and, and_false, or_true, true_or, or_false, false_or, id_eq, Bool.true_eq_false, decide_eq_true_eq, Bool.not_eq_true', decide_eq_false_iff_not, Bool.not_not, blsD, List.all_cons, List.all_nil, List.any_cons, List.any_nil, Bool.and_self, Bool.and_true, Bool.or_false, dFor, dLc, itL, wipeD, backD, isi_NoneType_bool, isi_NoneType_int, isi_NoneType_str, isi_NoneType_tuple, isi_NoneType_list, isi_NoneType_dict, isi_bool_bool, isi_bool_int, isi_bool_str, isi_bool_tuple, isi_bool_list, isi_bool_dict, isi_int_bool, isi_int_int, isi_int_str, isi_int_tuple, isi_int_list, isi_int_dict, isi_str_bool, isi_str_int, isi_str_str, isi_str_tuple, isi_str_list, isi_str_dict, isi_tuple_bool, isi_tuple_int, isi_tuple_str, isi_tuple_tuple, isi_tuple_list, isi_tuple_dict, isi_list_bool, isi_list_int, isi_list_str, isi_list_tuple, isi_list_list, isi_list_dict, isi_dict_bool, isi_dict_int, isi_dict_str, isi_dict_tuple, isi_dict_list, isi_dict_dict, flatV, k_LETTERS, k_MOST_LETTERS, k_FIGURES, k_MOST_FIGURES, e1, e2, le, le2, q0, hz, ha, pin]

theorem wf_bad {t : Str} {u r : List Nat} {a : Int} (h : Dc t a (u ++ r)) (hu : u ≠ []) (hk : (∀ c ∈ u, isLet c) ∧ (∀ c ∈ r.head?, ¬ isLet c) ∨ (∀ c ∈ u, isFig c) ∧ (∀ c ∈ r.head?, ¬ isFig c) ∨ ∃ c, u = [c] ∧ ¬ isLet c ∧ ¬ isFig c) (hb : ¬ wd ⟨u.toArray⟩) (hz : t.length ≤ 1000000) (S : List Cell) :
    g_word_from [sD t, .v (.int a)] S = .ex (bs a) S := by
  obtain ⟨c, cs, rfl⟩ := List.exists_cons_of_ne_nil hu
  have hlt : a < (t.length : Int) := Dc.lt (cs := cs ++ r) h
  have ha : atI t.cps.toList a = some c := Dc.at (cs := cs ++ r) h
  have ee : (⟨([] : List Nat).toArray⟩ : Str) = Str.ofString "" := by decide +kernel
  have le : ((Str.ofString "").length : Int) = 0 := rfl
  have le2 : ((Str.ofString "").length ≤ 1000000) := by decide
  have q0 : ¬ ((1 : Int) ≤ 0) := by decide
  have ux : (c :: cs).length ≤ 1000000 := by
    have e := congrArg List.length h.2
    rw [List.length_drop, List.length_append] at e
    rw [t_len] at hz
    omega
  have pin : (c = 46 ∨ c = 44) = False := eq_false fun q => by
    rcases hk with ⟨k, _⟩ | ⟨k, _⟩ | ⟨d, e, k1, k2⟩
    · have := k c List.mem_cons_self
      unfold isLet at this
      omega
    · have := k c List.mem_cons_self
      unfold isFig at this
      omega
    · cases e
      exact hb ((wd_one k1 k2).mpr q)
  have pi := pt_in c
  simp only [pin, decide_false] at pi
  have noLet : ¬ isLet c → g_run_of [sD t, .v (.int a), sD (Str.ofString "abcdefghijklmnopqrstuvwxyz")] S = .ok (sD (Str.ofString "")) S := fun nl => by
    have e1 := run_ok (sg := Str.ofString "abcdefghijklmnopqrstuvwxyz") (u := []) h (by omega) (fun x hx => absurd hx List.not_mem_nil) (fun x hx => by
      have : c = x := by simpa using hx
      subst this
      exact fun q => nl ((let_mem c).mp q)) hz S
    rwa [ee] at e1
  have noFig : ¬ isFig c → g_run_of [sD t, .v (.int a), sD (Str.ofString "0123456789")] S = .ok (sD (Str.ofString "")) S := fun nl => by
    have e1 := run_ok (sg := Str.ofString "0123456789") (u := []) h (by omega) (fun x hx => absurd hx List.not_mem_nil) (fun x hx => by
      have : c = x := by simpa using hx
      subst this
      exact fun q => nl ((fig_mem c).mp q)) hz S
    rwa [ee] at e1
  have l1 := sl_len (c :: cs)
  have uz : (⟨(c :: cs).toArray⟩ : Str).length ≤ 1000000 := by rw [l1]; exact ux
  rcases hk with ⟨k, k2⟩ | ⟨k, k2⟩ | ⟨d, e, k1, k2⟩
  · have e1 := run_ok (sg := Str.ofString "abcdefghijklmnopqrstuvwxyz") h (by omega) (fun x hx => (let_mem x).mpr (k x hx)) (fun x hx q => k2 x hx ((let_mem x).mp q)) hz S
    have e2 := noFig (by have := k c List.mem_cons_self; unfold isLet at this; unfold isFig; omega)
    rw [wd_letr hu k] at hb
    have q1 : (1 : Int) ≤ ((⟨(c :: cs).toArray⟩ : Str).length : Int) := by rw [l1]; simp; omega
    have q2 : ¬ (((⟨(c :: cs).toArray⟩ : Str).length : Int) ≤ 8) := by rw [l1]; omega
    simp only [g_word_from, den_word_from, runD, dD, dNil, dCons, dAnd, dOr, dNotT, dAndV, dOrV, dNotV, dIf, dTru, dCmpT, dSeq, dRet, dSet, dSetN, dIfS, dNx, dDrop, dOp, dNeg, dTup, dLst, dC, dK, dVar, okD, okN, frz, dCall, ofF, dAug, dPar, dApp, dChain, dListOf, dSlL, dRev,
  M.bind, M.pure, M.no, M.ne, dName, dUnit, dConsG, dTupG, gOr, gI, gS, gAdd, gSubI, gMul, gDiv, gMod, gPow, gIx, gLen, gAbs, gInt1, gSum, gAll, gAny, gMaxL, gMinL, gTupOf, g2I, gDm, gPart, gTru, gBool, gBoolO, gEq_pair, gEq_ints, gEq_sl1, gEq_sl2, opL, gEq_int, gEq_str, gEq_bl, gEq_non, gNone, gIn, gSign, gCat, gRep, gIsi,
  iLt, iLe, iGt, iGe, My.isNon, truD, tagD, seqD, lstD, rdlD, mutD, putL, tupD, vsD, rng1X, rng2X, enuX, zipX, seqX,
  Option.bind, Option.map, Option.bind_some, Option.map_some,
  List.map_cons, List.map_nil, List.length_cons, List.length_nil, List.nil_append, List.cons_append, List.replicate, List.getElem?_cons_zero, List.getElem?_cons_succ, List.set_cons_zero, List.set_cons_succ, List.append_nil,
  if_true, if_false, ite_true, ite_false, Nat.reduceAdd, Int.reduceToNat, Int.reducePow, Nat.reducePow, Int.reduceMul, Int.reduceAdd, Int.reduceSub, Int.reduceLT, Int.reduceLE, Nat.reduceMul, Int.cast_ofNat_Int, Nat.reduceSub, Nat.reduceLT, Nat.reduceLeDiff, ne_eq, reduceCtorEq, not_false_eq_true, not_true_eq_false, Int.reduceEq, Int.reduceNeg, Bool.false_eq_true, Bool.not_true, Bool.not_false, decide_true, decide_false, true_and, and_true, false_and, and_false, or_true, true_or, or_false, false_or, id_eq, Bool.true_eq_false, decide_eq_true_eq, Bool.not_eq_true', decide_eq_false_iff_not, Bool.not_not, blsD, List.all_cons, List.all_nil, List.any_cons, List.any_nil, Bool.and_self, Bool.and_true, Bool.or_false, dFor, dLc, itL, wipeD, backD, isi_NoneType_bool, isi_NoneType_int, isi_NoneType_str, isi_NoneType_tuple, isi_NoneType_list, isi_NoneType_dict, isi_bool_bool, isi_bool_int, isi_bool_str, isi_bool_tuple, isi_bool_list, isi_bool_dict, isi_int_bool, isi_int_int, isi_int_str, isi_int_tuple, isi_int_list, isi_int_dict, isi_str_bool, isi_str_int, isi_str_str, isi_str_tuple, isi_str_list, isi_str_dict, isi_tuple_bool, isi_tuple_int, isi_tuple_str, isi_tuple_tuple, isi_tuple_list, isi_tuple_dict, isi_list_bool, isi_list_int, isi_list_str, isi_list_tuple, isi_list_list, isi_list_dict, isi_dict_bool, isi_dict_int, isi_dict_str, isi_dict_tuple, isi_dict_list, isi_dict_dict, dSlD, dCatN, dLcA, dLcX, dForA, dForX, gStr1, gIsiS, tagS, dJoinS, dIsStr, strsO, gStrA, dRaiseF, dPut, flatV, k_LETTERS, k_MOST_LETTERS, k_FIGURES, k_MOST_FIGURES, e1, e2, le, le2, q0, q1, q2, uz, hz, ha, pi, bs]
  · have e1 := noLet (by have := k c List.mem_cons_self; unfold isFig at this; unfold isLet; omega)
    have e2 := run_ok (sg := Str.ofString "0123456789") h (by omega) (fun x hx => (fig_mem x).mpr (k x hx)) (fun x hx q => k2 x hx ((fig_mem x).mp q)) hz S
    rw [wd_fig hu k] at hb
    have q1 : (1 : Int) ≤ ((⟨(c :: cs).toArray⟩ : Str).length : Int) := by rw [l1]; simp; omega
    by_cases h4 : (c :: cs).length ≤ 4
    · have q2 : ((⟨(c :: cs).toArray⟩ : Str).length : Int) ≤ 4 := by rw [l1]; omega
      have nz : ((⟨(c :: cs).toArray⟩ : Str) = Str.ofString "0") = False := eq_false fun q => hb ⟨h4, .inl ((zero_iff _).mp q)⟩
      have c0 : ((⟨#[c]⟩ : Str) = Str.ofString "0") = True := eq_true ((one_zero c).mpr (Classical.byContradiction fun q => hb ⟨h4, .inr (by simpa using q)⟩))
      have a0 : atI (⟨(c :: cs).toArray⟩ : Str).cps.toList 0 = some c := at0 _ _
      simp only [g_word_from, den_word_from, runD, dD, dNil, dCons, dAnd, dOr, dNotT, dAndV, dOrV, dNotV, dIf, dTru, dCmpT, dSeq, dRet, dSet, dSetN, dIfS, dNx, dDrop, dOp, dNeg, dTup, dLst, dC, dK, dVar, okD, okN, frz, dCall, ofF, dAug, dPar, dApp, dChain, dListOf, dSlL, dRev,
  M.bind, M.pure, M.no, M.ne, dName, dUnit, dConsG, dTupG, gOr, gI, gS, gAdd, gSubI, gMul, gDiv, gMod, gPow, gIx, gLen, gAbs, gInt1, gSum, gAll, gAny, gMaxL, gMinL, gTupOf, g2I, gDm, gPart, gTru, gBool, gBoolO, gEq_pair, gEq_ints, gEq_sl1, gEq_sl2, opL, gEq_int, gEq_str, gEq_bl, gEq_non, gNone, gIn, gSign, gCat, gRep, gIsi,
  iLt, iLe, iGt, iGe, My.isNon, truD, tagD, seqD, lstD, rdlD, mutD, putL, tupD, vsD, rng1X, rng2X, enuX, zipX, seqX,
  Option.bind, Option.map, Option.bind_some, Option.map_some,
  List.map_cons, List.map_nil, List.length_cons, List.length_nil, List.nil_append, List.cons_append, List.replicate, List.getElem?_cons_zero, List.getElem?_cons_succ, List.set_cons_zero, List.set_cons_succ, List.append_nil,
  if_true, if_false, ite_true, ite_false, Nat.reduceAdd, Int.reduceToNat, Int.reducePow, Nat.reducePow, Int.reduceMul, Int.reduceAdd, Int.reduceSub, Int.reduceLT, Int.reduceLE, Nat.reduceMul, Int.cast_ofNat_Int, Nat.reduceSub, Nat.reduceLT, Nat.reduceLeDiff, ne_eq, reduceCtorEq, not_false_eq_true, not_true_eq_false, Int.reduceEq, Int.reduceNeg, Bool.false_eq_true, Bool.not_true, Bool.not_false, decide_true, decide_false, true_and, and_true, false_and, and_false, or_true, true_or, or_false, false_or, id_eq, Bool.true_eq_false, decide_eq_true_eq, Bool.not_eq_true', decide_eq_false_iff_not, Bool.not_not, blsD, List.all_cons, List.all_nil, List.any_cons, List.any_nil, Bool.and_self, Bool.and_true, Bool.or_false, dFor, dLc, itL, wipeD, backD, isi_NoneType_bool, isi_NoneType_int, isi_NoneType_str, isi_NoneType_tuple, isi_NoneType_list, isi_NoneType_dict, isi_bool_bool, isi_bool_int, isi_bool_str, isi_bool_tuple, isi_bool_list, isi_bool_dict, isi_int_bool, isi_int_int, isi_int_str, isi_int_tuple, isi_int_list, isi_int_dict, isi_str_bool, isi_str_int, isi_str_str, isi_str_tuple, isi_str_list, isi_str_dict, isi_tuple_bool, isi_tuple_int, isi_tuple_str, isi_tuple_tuple, isi_tuple_list, isi_tuple_dict, isi_list_bool, isi_list_int, isi_list_str, isi_list_tuple, isi_list_list, isi_list_dict, isi_dict_bool, isi_dict_int, isi_dict_str, isi_dict_tuple, isi_dict_list, isi_dict_dict, dSlD, dCatN, dLcA, dLcX, dForA, dForX, gStr1, gIsiS, tagS, dJoinS, dIsStr, strsO, gStrA, dRaiseF, dPut, flatV, k_LETTERS, k_MOST_LETTERS, k_FIGURES, k_MOST_FIGURES, e1, e2, le, le2, q0, q1, q2, nz, c0, a0, uz, hz, ha, pi, bs]
    · have q2 : ¬ ((⟨(c :: cs).toArray⟩ : Str).length : Int) ≤ 4 := by rw [l1]; omega
      simp only [g_word_from, den_word_from, runD, dD, dNil, dCons, dAnd, dOr, dNotT, dAndV, dOrV, dNotV, dIf, dTru, dCmpT, dSeq, dRet, dSet, dSetN, dIfS, dNx, dDrop, dOp, dNeg, dTup, dLst, dC, dK, dVar, okD, okN, frz, dCall, ofF, dAug, dPar, dApp, dChain, dListOf, dSlL, dRev,
  M.bind, M.pure, M.no, M.ne, dName, dUnit, dConsG, dTupG, gOr, gI, gS, gAdd, gSubI, gMul, gDiv, gMod, gPow, gIx, gLen, gAbs, gInt1, gSum, gAll, gAny, gMaxL, gMinL, gTupOf, g2I, gDm, gPart, gTru, gBool, gBoolO, gEq_pair, gEq_ints, gEq_sl1, gEq_sl2, opL, gEq_int, gEq_str, gEq_bl, gEq_non, gNone, gIn, gSign, gCat, gRep, gIsi,
  iLt, iLe, iGt, iGe, My.isNon, truD, tagD, seqD, lstD, rdlD, mutD, putL, tupD, vsD, rng1X, rng2X, enuX, zipX, seqX,
  Option.bind, Option.map, Option.bind_some, Option.map_some,
  List.map_cons, List.map_nil, List.length_cons, List.length_nil, List.nil_append, List.cons_append, List.replicate, List.getElem?_cons_zero, List.getElem?_cons_succ, List.set_cons_zero, List.set_cons_succ, List.append_nil,
  if_true, if_false, ite_true, ite_false, Nat.reduceAdd, Int.reduceToNat, Int.reducePow, Nat.reducePow, Int.reduceMul, Int.reduceAdd, Int.reduceSub, Int.reduceLT, Int.reduceLE, Nat.reduceMul, Int.cast_ofNat_Int, Nat.reduceSub, Nat.reduceLT, Nat.reduceLeDiff, ne_eq, reduceCtorEq, not_false_eq_true, not_true_eq_false, Int.reduceEq, Int.reduceNeg, Bool.false_eq_true, Bool.not_true, Bool.not_false, decide_true, decide_false, true_and, and_true, false_and, and_false, or_true, true_or, or_false, false_or, id_eq, Bool.true_eq_false, decide_eq_true_eq, Bool.not_eq_true', decide_eq_false_iff_not, Bool.not_not, blsD, List.all_cons, List.all_nil, List.any_cons, List.any_nil, Bool.and_self, Bool.and_true, Bool.or_false, dFor, dLc, itL, wipeD, backD, isi_NoneType_bool, isi_NoneType_int, isi_NoneType_str, isi_NoneType_tuple, isi_NoneType_list, isi_NoneType_dict, isi_bool_bool, isi_bool_int, isi_bool_str, isi_bool_tuple, isi_bool_list, isi_bool_dict, isi_int_bool, isi_int_int, isi_int_str, isi_int_tuple, isi_int_list, isi_int_dict, isi_str_bool, isi_str_int, isi_str_str, isi_str_tuple, isi_str_list, isi_str_dict, isi_tuple_bool, isi_tuple_int, isi_tuple_str, isi_tuple_tuple, isi_tuple_list, isi_tuple_dict, isi_list_bool, isi_list_int, isi_list_str, isi_list_tuple, isi_list_list, isi_list_dict, isi_dict_bool, isi_dict_int, isi_dict_str, isi_dict_tuple, isi_dict_list, isi_dict_dict, dSlD, dCatN, dLcA, dLcX, dForA, dForX, gStr1, gIsiS, tagS, dJoinS, dIsStr, strsO, gStrA, dRaiseF, dPut, flatV, k_LETTERS, k_MOST_LETTERS, k_FIGURES, k_MOST_FIGURES, e1, e2, le, le2, q0, q1, q2, uz, hz, ha, pi, bs]
  · cases e
    have e1 := noLet k1
    have e2 := noFig k2
    simp only [g_word_from, den_word_from, runD, dD, dNil, dCons, dAnd, dOr, dNotT, dAndV, dOrV, dNotV, dIf, dTru, dCmpT, dSeq, dRet, dSet, dSetN, dIfS, dNx, dDrop, dOp, dNeg, dTup, dLst, dC, dK, dVar, okD, okN, frz, dCall, ofF, dAug, dPar, dApp, dChain, dListOf, dSlL, dRev,
  M.bind, M.pure, M.no, M.ne, dName, dUnit, dConsG, dTupG, gOr, gI, gS, gAdd, gSubI, gMul, gDiv, gMod, gPow, gIx, gLen, gAbs, gInt1, gSum, gAll, gAny, gMaxL, gMinL, gTupOf, g2I, gDm, gPart, gTru, gBool, gBoolO, gEq_pair, gEq_ints, gEq_sl1, gEq_sl2, opL, gEq_int, gEq_str, gEq_bl, gEq_non, gNone, gIn, gSign, gCat, gRep, gIsi,
  iLt, iLe, iGt, iGe, My.isNon, truD, tagD, seqD, lstD, rdlD, mutD, putL, tupD, vsD, rng1X, rng2X, enuX, zipX, seqX,
  Option.bind, Option.map, Option.bind_some, Option.map_some,
  List.map_cons, List.map_nil, List.length_cons, List.length_nil, List.nil_append, List.cons_append, List.replicate, List.getElem?_cons_zero, List.getElem?_cons_succ, List.set_cons_zero, List.set_cons_succ, List.append_nil,
  if_true, if_false, ite_true, ite_false, Nat.reduceAdd, Int.reduceToNat, Int.reducePow, Nat.reducePow, Int.reduceMul, Int.reduceAdd, Int.reduceSub, Int.reduceLT, Int.reduceLE, Nat.reduceMul, Int.cast_ofNat_Int, Nat.reduceSub, Nat.reduceLT, Nat.reduceLeDiff, ne_eq, reduceCtorEq, not_false_eq_true, not_true_eq_false, Int.reduceEq, Int.reduceNeg, Bool.false_eq_true, Bool.not_true, Bool.not_false, decide_true, decide_false, true_and, and_true, false_and, and_false, or_true, true_or, or_false, false_or, id_eq, Bool.true_eq_false, decide_eq_true_eq, Bool.not_eq_true', decide_eq_false_iff_not, Bool.not_not, blsD, List.all_cons, List.all_nil, List.any_cons, List.any_nil, Bool.and_self, Bool.and_true, Bool.or_false, dFor, dLc, itL, wipeD, backD, isi_NoneType_bool, isi_NoneType_int, isi_NoneType_str, isi_NoneType_tuple, isi_NoneType_list, isi_NoneType_dict, isi_bool_bool, isi_bool_int, isi_bool_str, isi_bool_tuple, isi_bool_list, isi_bool_dict, isi_int_bool, isi_int_int, isi_int_str, isi_int_tuple, isi_int_list, isi_int_dict, isi_str_bool, isi_str_int, isi_str_str, isi_str_tuple, isi_str_list, isi_str_dict, isi_tuple_bool, isi_tuple_int, isi_tuple_str, isi_tuple_tuple, isi_tuple_list, isi_tuple_dict, isi_list_bool, isi_list_int, isi_list_str, isi_list_tuple, isi_list_list, isi_list_dict, isi_dict_bool, isi_dict_int, isi_dict_str, isi_dict_tuple, isi_dict_list, isi_dict_dict, dSlD, dCatN, dLcA, dLcX, dForA, dForX, gStr1, gIsiS, tagS, dJoinS, dIsStr, strsO, gStrA, dRaiseF, dPut, flatV, k_LETTERS, k_MOST_LETTERS, k_FIGURES, k_MOST_FIGURES, e1, e2, le, le2, q0, hz, ha, pi, bs]

theorem wf_good {t : Str} {u r : List Nat} {a : Int} (h : Dc t a (u ++ r)) (hu : u ≠ []) (hk : Kd u r) (hw : wd ⟨u.toArray⟩) (hz : t.length ≤ 1000000) (S : List Cell) : g_word_from [sD t, .v (.int a)] S = .ok (sD ⟨u.toArray⟩) S := by
  have e : (⟨u.toArray⟩ : Str).cps.toList = u := by simp
  obtain ⟨c, cs, rfl⟩ := List.exists_cons_of_ne_nil hu
  refine wf_ok (w := ⟨(c :: cs).toArray⟩) (r := r) (by rw [e]; exact h) hw (fun z => ?_) (fun z => ?_) hz S
  · rcases hk with ⟨_, k⟩ | ⟨k, _⟩ | ⟨d, e2, k, _⟩
    · exact k
    · have := z.2.2 c (by rw [e]; exact List.mem_cons_self)
      have := k c List.mem_cons_self
      unfold isLet isFig at *
      omega
    · cases e2
      exact absurd (z.2.2 c (by rw [e]; exact List.mem_cons_self)) k
  · rcases hk with ⟨k, _⟩ | ⟨_, k⟩ | ⟨d, e2, _, k⟩
    · have := z.2.2.1 c (by rw [e]; exact List.mem_cons_self)
      have := k c List.mem_cons_self
      unfold isLet isFig at *
      omega
    · exact k
    · cases e2
      exact absurd (z.2.2.1 c (by rw [e]; exact List.mem_cons_self)) k
theorem ok_word_from (T : Tx K mg Env.HallError Env.BadSign Env.BadText Env.BadName Env.BadNumber Env.BadRing Env.BadLoan Env.TooMany Env.NoDoor Env.BadChange Env.BadKept) (h_F_run_of : Okf P w K mg base 1 "run_of" ["text", "at", "signs"] g_run_of) (h_X_BadSign : OkX P w K mg base "BadSign" Env.BadSign "spot") : Okf P w K mg base 3 "word_from" ["text", "at"] g_word_from := (raw_word_from T h_F_run_of h_X_BadSign).by eq_word_from
abbrev swords : Stmt := (top 22)
abbrev Nwords : List Str := ["text", "found", "at"]
theorem scwords : FnScope Nwords ["text"] (defScope swords) := ⟨rfl, rfl, rfl, by decide +kernel, rfl, by decide +kernel, by decide +kernel⟩
noncomputable def wwords1c : M Bool :=
    (dCmpT (gI iLt) (dVar 2) (okD (M.bind (dVar 0) gLen)))
noncomputable def wwords1b : M Fl :=
    (dIfS (dCmpT (gOr (gIn false) (gSign false)) (okD (dOp gIx (dVar 0) (dVar 2))) (okD (dTup (dCons (dD (dC (.str " "))) (dCons (dD (dC (.str "\n"))) dNil))))) (dSet 2 (dOp gAdd (dVar 2) (dC (.int 1)))) (dSeq (dDrop (okD (dApp (dVar 1) (dCall g_word_from (dCons (dD (dVar 0)) (dCons (dD (dVar 2)) dNil))))))
    (dSet 2 (dOp gAdd (dVar 2) (okD (M.bind (okD (dOp gIx (dVar 1) (okD (dNeg (dC (.int 1)))))) gLen))))))
noncomputable def den_words : M Fl :=
    (dSeq (dIfS (dOr (dNotT (dTru (okD (M.bind (dD (dVar 0)) (gIsiS "str"))))) (dCmpT (gI iGt) (okD (M.bind (dVar 0) gLen)) (dK k_MOST_SIGNS))) (dRaiseF Env.BadSign "spot" (dD (dC (.int 0)))) dNx)
    (dSeq (dSet 1 (dSt (dLst dNil)))
    (dSeq (dSet 2 (dD (dC (.int 0))))
    (dSeq (dWhile wwords1c wwords1b)
    (dRet (dD (dVar 1)))))))
theorem raw_words (T : Tx K mg Env.HallError Env.BadSign Env.BadText Env.BadName Env.BadNumber Env.BadRing Env.BadLoan Env.TooMany Env.NoDoor Env.BadChange Env.BadKept) (h_F_word_from : Okf P w K mg base 3 "word_from" ["text", "at"] g_word_from) (h_X_BadSign : OkX P w K mg base "BadSign" Env.BadSign "spot") : Okf P w K mg base 4 "words" ["text"] (runD 3 1 den_words) := by
  have sc := scwords
  exact ok_has (N := Nwords) T.d_words sc rfl (by decide) fun f cdv A outer s H E hr => ⟨_, ((bd_cons (sd_if (td_w (wd_or (td_not (td_val (DD.e (dd_isiS (x := "str") (cl := "str") (by rfl) T.n_isinstance (by decide +kernel) (ED.d (ed_var 0)) (by rfl) T.n_str (by decide +kernel))))) (wd_or1 (td_cmp cGt (DD.e (dd_b1 bLen (by rfl) T.n_len (by decide +kernel) (ed_var 0))) (ed_globV (by rfl) T.kc_MOST_SIGNS) (nomark _))))) (bd_one (sd_raiseF h_X_BadSign (hr.mono (by decide)) rfl (L2N.takes_of rfl rfl rfl rfl) (by rfl) (ED.d ed_int))) bd_nil)
    (bd_cons (sd_set (i := 1) sc.nd rfl (by first | exact Or.inl rfl | exact Or.inr rfl) (dd_st (en_lst ad_nil)))
    (bd_cons (sd_set (i := 2) sc.nd rfl (by first | exact Or.inl rfl | exact Or.inr rfl) (ED.d ed_int))
    (bd_cons (sd_while (passes_of rfl) (td_cmp cLt (ed_var 2) (DD.e (dd_b1 bLen (by rfl) T.n_len (by decide +kernel) (ed_var 0))) (nomark _)) (bd_one (sd_if (td_cmp cIn (DD.e (dd_ix (ed_var 0) (ed_var 2) (fun _ _ => rfl))) (DD.e (dd_tup (ad_cons (ED.d ed_str) (ad_cons (ED.d ed_str) ad_nil)))) rfl) (bd_one (sd_set (i := 2) sc.nd rfl (by first | exact Or.inl rfl | exact Or.inr rfl) (dd_add (ed_var 2) ed_int))) (bd_cons (sd_expr (DD.e (dd_append (ed_var 1) (dd_fn h_F_word_from (hr.mono (by decide)) (by rfl) (pol_of (L2N.takes_of rfl rfl rfl rfl)) (ad_cons (ED.d (ed_var 0)) (ad_cons (ED.d (ed_var 2)) ad_nil))))))
    (bd_one (sd_set (i := 2) sc.nd rfl (by first | exact Or.inl rfl | exact Or.inr rfl) (dd_add (ed_var 2) (DD.e (dd_b1 bLen (by rfl) T.n_len (by decide +kernel) (DD.e (dd_ix (ed_var 1) (DD.e (dd_neg ed_int)) (fun _ _ => rfl))))))))))))
    (bd_one (sd_ret (ED.d (ed_var 1)))))))) : BD _ _ _ _ den_words)⟩
noncomputable def g_words : G := runD 3 1 den_words
theorem eq_words : ∀ ds S, g_words ds S ≠ .no → runD 3 1 den_words ds S = g_words ds S := fun _ _ _ => rfl

abbrev wst (t : Str) (S : List Cell) (a : Int) (acc : List D) : Stt := ⟨[.d (sD t), .d (.loc S.length), .d (.v (.int a))], S ++ [.lst acc]⟩
def Goes (t : Str) (S : List Cell) (a : Int) (acc : List D) (l : List (Int × Str)) : Prop := match badD l with
  | none => ∃ b, dWhile wwords1c wwords1b (wst t S a acc) = .ok .nx (wst t S b (acc ++ Ss (l.map (·.2))))
  | some q => ∃ c', dWhile wwords1c wwords1b (wst t S a acc) = .ex (bs q) c'
theorem goes_step {t : Str} {S : List Cell} {u r : List Nat} {a : Int} {acc : List D} {l : List (Int × Str)} (hz : t.length ≤ 1000000) (hu : u ≠ []) (hk : Kd u r) (nb : ∀ c ∈ u, ¬ isBl c) (hd : Dc t a (u ++ r)) (hl : acc.length + (u ++ r).length ≤ 10000)
    (ih : wd ⟨u.toArray⟩ → Goes t S (a + u.length) (acc ++ [sD ⟨u.toArray⟩]) l) : Goes t S a acc ((a, ⟨u.toArray⟩) :: l) := by
  obtain ⟨c, cs, e⟩ := List.exists_cons_of_ne_nil hu
  have hd2 : Dc t a (c :: (cs ++ r)) := by
    rw [e] at hd
    exact hd
  have h1 := hd2.lt
  have h2 := hd2.at
  have b := bl_in c
  have nbc : (c = 32 ∨ c = 10) = False := eq_false (nb c (by rw [e]; exact List.mem_cons_self))
  simp only [nbc, decide_false] at b
  have g1 := st_get S (.lst acc)
  have hz2 : acc.length < 1000000 := by omega
  unfold Goes badD
  by_cases hw : wd ⟨u.toArray⟩
  · rw [if_pos hw]
    have f := wf_good hd hu hk hw hz (S ++ [.lst acc])
    have s1 := st_set S (.lst acc) (.lst (acc ++ [sD ⟨u.toArray⟩]))
    have g2 := st_get S (.lst (acc ++ [sD ⟨u.toArray⟩]))
    have al := at_lastD acc (sD ⟨u.toArray⟩)
    have lu := sl_len u
    have hlw : (⟨u.toArray⟩ : Str).length ≤ 1000000 := by
      rw [lu]
      rw [List.length_append] at hl
      omega
    have ih := ih hw
    rw [← lu] at ih
    have key : dWhile wwords1c wwords1b (wst t S a acc) = dWhile wwords1c wwords1b (wst t S (a + ((⟨u.toArray⟩ : Str).length : Int)) (acc ++ [sD ⟨u.toArray⟩])) := by
      conv => lhs; rw [dWhile_eq]
      generalize dWhile wwords1c wwords1b = D
      simp only [wst, wwords1c, wwords1b, runD, dD, dNil, dCons, dAnd, dOr, dNotT, dAndV, dOrV, dNotV, dIf, dTru, dCmpT, dSeq, dRet, dSet, dSetN, dIfS, dNx, dDrop, dOp, dNeg, dTup, dLst, dC, dK, dVar, okD, okN, frz, dCall, ofF, dAug, dPar, dApp, dChain, dListOf, dSlL, dRev,
  M.bind, M.pure, M.no, M.ne, dName, dUnit, dConsG, dTupG, gOr, gI, gS, gAdd, gSubI, gMul, gDiv, gMod, gPow, gIx, gLen, gAbs, gInt1, gSum, gAll, gAny, gMaxL, gMinL, gTupOf, g2I, gDm, gPart, gTru, gBool, gBoolO, gEq_pair, gEq_ints, gEq_sl1, gEq_sl2, opL, gEq_int, gEq_str, gEq_bl, gEq_non, gNone, gIn, gSign, gCat, gRep, gIsi,
  iLt, iLe, iGt, iGe, My.isNon, truD, tagD, seqD, lstD, rdlD, mutD, putL, tupD, vsD, rng1X, rng2X, enuX, zipX, seqX,
  Option.bind, Option.map, Option.bind_some, Option.map_some,
  List.map_cons, List.map_nil, List.length_cons, List.length_nil, List.nil_append, List.cons_append, List.replicate, List.getElem?_cons_zero, List.getElem?_cons_succ, List.set_cons_zero, List.set_cons_succ, List.append_nil,
  if_true, if_false, ite_true, ite_false, Nat.reduceAdd, Int.reduceToNat, Int.reducePow, Nat.reducePow, Int.reduceMul, Int.reduceAdd, Int.reduceSub, Int.reduceLT, Int.reduceLE, Nat.reduceMul, Int.cast_ofNat_Int, Nat.reduceSub, Nat.reduceLT, Nat.reduceLeDiff, ne_eq, reduceCtorEq, not_false_eq_true, not_true_eq_false, Int.reduceEq, Int.reduceNeg, Bool.false_eq_true, Bool.not_true, Bool.not_false, decide_true, decide_false, true_and, and_true, false_and, and_false, or_true, true_or, or_false, false_or, id_eq, Bool.true_eq_false, decide_eq_true_eq, Bool.not_eq_true', decide_eq_false_iff_not, Bool.not_not, blsD, List.all_cons, List.all_nil, List.any_cons, List.any_nil, Bool.and_self, Bool.and_true, Bool.or_false, dFor, dLc, itL, wipeD, backD, isi_NoneType_bool, isi_NoneType_int, isi_NoneType_str, isi_NoneType_tuple, isi_NoneType_list, isi_NoneType_dict, isi_bool_bool, isi_bool_int, isi_bool_str, isi_bool_tuple, isi_bool_list, isi_bool_dict, isi_int_bool, isi_int_int, isi_int_str, isi_int_tuple, isi_int_list, isi_int_dict, isi_str_bool, isi_str_int, isi_str_str, isi_str_tuple, isi_str_list, isi_str_dict, isi_tuple_bool, isi_tuple_int, isi_tuple_str, isi_tuple_tuple, isi_tuple_list, isi_tuple_dict, isi_list_bool, isi_list_int, isi_list_str, isi_list_tuple, isi_list_list, isi_list_dict, isi_dict_bool, isi_dict_int, isi_dict_str, isi_dict_tuple, isi_dict_list, isi_dict_dict, dSlD, dCatN, dLcA, dLcX, dForA, dForX, gStr1, gIsiS, tagS, dJoinS, dIsStr, strsO, gStrA, dRaiseF, dPut, flatV, h1, h2, hz, b, f, hz2, al, hlw, g1, s1, g2]
    rw [key]
    unfold Goes at ih
    cases hb : badD l with
    | none =>
      rw [hb] at ih
      obtain ⟨y, ey⟩ := ih
      refine ⟨y, ey.trans ?_⟩
      rw [List.append_assoc]
      rfl
    | some q =>
      rw [hb] at ih
      exact ih
  · rw [if_neg hw]
    have f := wf_bad hd hu hk hw hz (S ++ [.lst acc])
    refine ⟨wst t S a acc, ?_⟩
    rw [dWhile_eq]
    simp only [wst, wwords1c, wwords1b, runD, dD, dNil, dCons, dAnd, dOr, dNotT, dAndV, dOrV, dNotV, dIf, dTru, dCmpT, dSeq, dRet, dSet, dSetN, dIfS, dNx, dDrop, dOp, dNeg, dTup, dLst, dC, dK, dVar, okD, okN, frz, dCall, ofF, dAug, dPar, dApp, dChain, dListOf, dSlL, dRev,
  M.bind, M.pure, M.no, M.ne, dName, dUnit, dConsG, dTupG, gOr, gI, gS, gAdd, gSubI, gMul, gDiv, gMod, gPow, gIx, gLen, gAbs, gInt1, gSum, gAll, gAny, gMaxL, gMinL, gTupOf, g2I, gDm, gPart, gTru, gBool, gBoolO, gEq_pair, gEq_ints, gEq_sl1, gEq_sl2, opL, gEq_int, gEq_str, gEq_bl, gEq_non, gNone, gIn, gSign, gCat, gRep, gIsi,
  iLt, iLe, iGt, iGe, My.isNon, truD, tagD, seqD, lstD, rdlD, mutD, putL, tupD, vsD, rng1X, rng2X, enuX, zipX, seqX,
  Option.bind, Option.map, Option.bind_some, Option.map_some,
  List.map_cons, List.map_nil, List.length_cons, List.length_nil, List.nil_append, List.cons_append, List.replicate, List.getElem?_cons_zero, List.getElem?_cons_succ, List.set_cons_zero, List.set_cons_succ, List.append_nil,
  if_true, if_false, ite_true, ite_false, Nat.reduceAdd, Int.reduceToNat, Int.reducePow, Nat.reducePow, Int.reduceMul, Int.reduceAdd, Int.reduceSub, Int.reduceLT, Int.reduceLE, Nat.reduceMul, Int.cast_ofNat_Int, Nat.reduceSub, Nat.reduceLT, Nat.reduceLeDiff, ne_eq, reduceCtorEq, not_false_eq_true, not_true_eq_false, Int.reduceEq, Int.reduceNeg, Bool.false_eq_true, Bool.not_true, Bool.not_false, decide_true, decide_false, true_and, and_true, false_and, and_false, or_true, true_or, or_false, false_or, id_eq, Bool.true_eq_false, decide_eq_true_eq, Bool.not_eq_true', decide_eq_false_iff_not, Bool.not_not, blsD, List.all_cons, List.all_nil, List.any_cons, List.any_nil, Bool.and_self, Bool.and_true, Bool.or_false, dFor, dLc, itL, wipeD, backD, isi_NoneType_bool, isi_NoneType_int, isi_NoneType_str, isi_NoneType_tuple, isi_NoneType_list, isi_NoneType_dict, isi_bool_bool, isi_bool_int, isi_bool_str, isi_bool_tuple, isi_bool_list, isi_bool_dict, isi_int_bool, isi_int_int, isi_int_str, isi_int_tuple, isi_int_list, isi_int_dict, isi_str_bool, isi_str_int, isi_str_str, isi_str_tuple, isi_str_list, isi_str_dict, isi_tuple_bool, isi_tuple_int, isi_tuple_str, isi_tuple_tuple, isi_tuple_list, isi_tuple_dict, isi_list_bool, isi_list_int, isi_list_str, isi_list_tuple, isi_list_list, isi_list_dict, isi_dict_bool, isi_dict_int, isi_dict_str, isi_dict_tuple, isi_dict_list, isi_dict_dict, dSlD, dCatN, dLcA, dLcX, dForA, dForX, gStr1, gIsiS, tagS, dJoinS, dIsStr, strsO, gStrA, dRaiseF, dPut, flatV, h1, h2, hz, b, f, g1]
theorem words_go {t : Str} (hz : t.length ≤ 1000000) (S : List Cell) : ∀ {a : Int} {cs : List Nat} {l : List (Int × Str)}, Rn a cs l → ∀ acc : List D, Dc t a cs → acc.length + cs.length ≤ 10000 → Goes t S a acc l := by
  intro a cs l hx
  induction hx with
  | @nil a =>
    intro acc hd _
    have h := Dc.ge hd
    refine ⟨a, ?_⟩
    rw [dWhile_eq, show acc ++ Ss (([] : List (Int × Str)).map (·.2)) = acc from List.append_nil _]
    simp only [wst, wwords1c, runD, dD, dNil, dCons, dAnd, dOr, dNotT, dAndV, dOrV, dNotV, dIf, dTru, dCmpT, dSeq, dRet, dSet, dSetN, dIfS, dNx, dDrop, dOp, dNeg, dTup, dLst, dC, dK, dVar, okD, okN, frz, dCall, ofF, dAug, dPar, dApp, dChain, dListOf, dSlL, dRev,
  M.bind, M.pure, M.no, M.ne, dName, dUnit, dConsG, dTupG, gOr, gI, gS, gAdd, gSubI, gMul, gDiv, gMod, gPow, gIx, gLen, gAbs, gInt1, gSum, gAll, gAny, gMaxL, gMinL, gTupOf, g2I, gDm, gPart, gTru, gBool, gBoolO, gEq_pair, gEq_ints, gEq_sl1, gEq_sl2, opL, gEq_int, gEq_str, gEq_bl, gEq_non, gNone, gIn, gSign, gCat, gRep, gIsi,
  iLt, iLe, iGt, iGe, My.isNon, truD, tagD, seqD, lstD, rdlD, mutD, putL, tupD, vsD, rng1X, rng2X, enuX, zipX, seqX,
  Option.bind, Option.map, Option.bind_some, Option.map_some,
  List.map_cons, List.map_nil, List.length_cons, List.length_nil, List.nil_append, List.cons_append, List.replicate, List.getElem?_cons_zero, List.getElem?_cons_succ, List.set_cons_zero, List.set_cons_succ, List.append_nil,
  if_true, if_false, ite_true, ite_false, Nat.reduceAdd, Int.reduceToNat, Int.reducePow, Nat.reducePow, Int.reduceMul, Int.reduceAdd, Int.reduceSub, Int.reduceLT, Int.reduceLE, Nat.reduceMul, Int.cast_ofNat_Int, Nat.reduceSub, Nat.reduceLT, Nat.reduceLeDiff, ne_eq, reduceCtorEq, not_false_eq_true, not_true_eq_false, Int.reduceEq, Int.reduceNeg, Bool.false_eq_true, Bool.not_true, Bool.not_false, decide_true, decide_false, true_and, and_true, false_and, and_false, or_true, true_or, or_false, false_or, id_eq, Bool.true_eq_false, decide_eq_true_eq, Bool.not_eq_true', decide_eq_false_iff_not, Bool.not_not, blsD, List.all_cons, List.all_nil, List.any_cons, List.any_nil, Bool.and_self, Bool.and_true, Bool.or_false, dFor, dLc, itL, wipeD, backD, isi_NoneType_bool, isi_NoneType_int, isi_NoneType_str, isi_NoneType_tuple, isi_NoneType_list, isi_NoneType_dict, isi_bool_bool, isi_bool_int, isi_bool_str, isi_bool_tuple, isi_bool_list, isi_bool_dict, isi_int_bool, isi_int_int, isi_int_str, isi_int_tuple, isi_int_list, isi_int_dict, isi_str_bool, isi_str_int, isi_str_str, isi_str_tuple, isi_str_list, isi_str_dict, isi_tuple_bool, isi_tuple_int, isi_tuple_str, isi_tuple_tuple, isi_tuple_list, isi_tuple_dict, isi_list_bool, isi_list_int, isi_list_str, isi_list_tuple, isi_list_list, isi_list_dict, isi_dict_bool, isi_dict_int, isi_dict_str, isi_dict_tuple, isi_dict_list, isi_dict_dict, h, hz]
  | @bl a c r l hc _ ih =>
    intro acc hd hl
    have h1 := hd.lt
    have h2 := hd.at
    have b := bl_in c
    have hc2 : (c = 32 ∨ c = 10) = True := eq_true hc
    simp only [hc2, decide_true] at b
    have ih := ih acc hd.next (by simp at hl; omega)
    have key : dWhile wwords1c wwords1b (wst t S a acc) = dWhile wwords1c wwords1b (wst t S (a + 1) acc) := by
      conv => lhs; rw [dWhile_eq]
      generalize dWhile wwords1c wwords1b = D
      simp only [wst, wwords1c, wwords1b, runD, dD, dNil, dCons, dAnd, dOr, dNotT, dAndV, dOrV, dNotV, dIf, dTru, dCmpT, dSeq, dRet, dSet, dSetN, dIfS, dNx, dDrop, dOp, dNeg, dTup, dLst, dC, dK, dVar, okD, okN, frz, dCall, ofF, dAug, dPar, dApp, dChain, dListOf, dSlL, dRev,
  M.bind, M.pure, M.no, M.ne, dName, dUnit, dConsG, dTupG, gOr, gI, gS, gAdd, gSubI, gMul, gDiv, gMod, gPow, gIx, gLen, gAbs, gInt1, gSum, gAll, gAny, gMaxL, gMinL, gTupOf, g2I, gDm, gPart, gTru, gBool, gBoolO, gEq_pair, gEq_ints, gEq_sl1, gEq_sl2, opL, gEq_int, gEq_str, gEq_bl, gEq_non, gNone, gIn, gSign, gCat, gRep, gIsi,
  iLt, iLe, iGt, iGe, My.isNon, truD, tagD, seqD, lstD, rdlD, mutD, putL, tupD, vsD, rng1X, rng2X, enuX, zipX, seqX,
  Option.bind, Option.map, Option.bind_some, Option.map_some,
  List.map_cons, List.map_nil, List.length_cons, List.length_nil, List.nil_append, List.cons_append, List.replicate, List.getElem?_cons_zero, List.getElem?_cons_succ, List.set_cons_zero, List.set_cons_succ, List.append_nil,
  if_true, if_false, ite_true, ite_false, Nat.reduceAdd, Int.reduceToNat, Int.reducePow, Nat.reducePow, Int.reduceMul, Int.reduceAdd, Int.reduceSub, Int.reduceLT, Int.reduceLE, Nat.reduceMul, Int.cast_ofNat_Int, Nat.reduceSub, Nat.reduceLT, Nat.reduceLeDiff, ne_eq, reduceCtorEq, not_false_eq_true, not_true_eq_false, Int.reduceEq, Int.reduceNeg, Bool.false_eq_true, Bool.not_true, Bool.not_false, decide_true, decide_false, true_and, and_true, false_and, and_false, or_true, true_or, or_false, false_or, id_eq, Bool.true_eq_false, decide_eq_true_eq, Bool.not_eq_true', decide_eq_false_iff_not, Bool.not_not, blsD, List.all_cons, List.all_nil, List.any_cons, List.any_nil, Bool.and_self, Bool.and_true, Bool.or_false, dFor, dLc, itL, wipeD, backD, isi_NoneType_bool, isi_NoneType_int, isi_NoneType_str, isi_NoneType_tuple, isi_NoneType_list, isi_NoneType_dict, isi_bool_bool, isi_bool_int, isi_bool_str, isi_bool_tuple, isi_bool_list, isi_bool_dict, isi_int_bool, isi_int_int, isi_int_str, isi_int_tuple, isi_int_list, isi_int_dict, isi_str_bool, isi_str_int, isi_str_str, isi_str_tuple, isi_str_list, isi_str_dict, isi_tuple_bool, isi_tuple_int, isi_tuple_str, isi_tuple_tuple, isi_tuple_list, isi_tuple_dict, isi_list_bool, isi_list_int, isi_list_str, isi_list_tuple, isi_list_list, isi_list_dict, isi_dict_bool, isi_dict_int, isi_dict_str, isi_dict_tuple, isi_dict_list, isi_dict_dict, flatV, h1, h2, hz, b]
    unfold Goes at *
    rw [key]
    exact ih
  | @letr a u r l hu h1 h2 _ ih =>
    intro acc hd hl
    exact goes_step hz hu (.inl ⟨h1, h2⟩) (fun c hc q => by have := h1 c hc; unfold isLet at this; unfold isBl at q; omega) hd hl fun hw => ih _ hd.jump (by rw [List.length_append] at hl; rw [List.length_append, List.length_singleton]; have := List.length_pos_iff.mpr hu; omega)
  | @fig a u r l hu h1 h2 _ ih =>
    intro acc hd hl
    exact goes_step hz hu (.inr (.inl ⟨h1, h2⟩)) (fun c hc q => by have := h1 c hc; unfold isFig at this; unfold isBl at q; omega) hd hl fun hw => ih _ hd.jump (by rw [List.length_append] at hl; rw [List.length_append, List.length_singleton]; have := List.length_pos_iff.mpr hu; omega)
  | @one a c r l hb h1 h2 _ ih =>
    intro acc hd hl
    exact goes_step (u := [c]) hz (by simp) (.inr (.inr ⟨c, rfl, h1, h2⟩)) (fun x hx q => hb (by have e : x = c := (by simpa using hx); rwa [e] at q)) hd hl fun hw => ih _ hd.next (by simp at hl; simp; omega)
/-- what words tells -/
theorem words_ok {t : Str} {l : List (Int × Str)} (h : Rn 0 t.cps.toList l) (hz : t.length ≤ 6000) (S : List Cell) : match badD l with
    | none => g_words [sD t] S = .ok (.loc S.length) (S ++ [.lst (Ss (l.map (·.2)))])
    | some q => ∃ S', g_words [sD t] S = .ex (bs q) S' := by
  have z : t.length ≤ 1000000 := by omega
  have go := words_go z S h [] ⟨Int.le_refl _, rfl⟩ (by rw [← t_len]; simp; omega)
  have l6 : ¬ ((6000 : Int) < (t.length : Int)) := by omega
  unfold Goes wst at go
  cases hb : badD l with
  | none =>
    rw [hb] at go
    obtain ⟨b, e⟩ := go
    rw [List.nil_append] at e
    simp only [g_words, den_words, runD, dD, dNil, dCons, dAnd, dOr, dNotT, dAndV, dOrV, dNotV, dIf, dTru, dCmpT, dSeq, dRet, dSet, dSetN, dIfS, dNx, dDrop, dOp, dNeg, dTup, dLst, dC, dK, dVar, okD, okN, frz, dCall, ofF, dAug, dPar, dApp, dChain, dListOf, dSlL, dRev,
  M.bind, M.pure, M.no, M.ne, dName, dUnit, dConsG, dTupG, gOr, gI, gS, gAdd, gSubI, gMul, gDiv, gMod, gPow, gIx, gLen, gAbs, gInt1, gSum, gAll, gAny, gMaxL, gMinL, gTupOf, g2I, gDm, gPart, gTru, gBool, gBoolO, gEq_pair, gEq_ints, gEq_sl1, gEq_sl2, opL, gEq_int, gEq_str, gEq_bl, gEq_non, gNone, gIn, gSign, gCat, gRep, gIsi,
  iLt, iLe, iGt, iGe, My.isNon, truD, tagD, seqD, lstD, rdlD, mutD, putL, tupD, vsD, rng1X, rng2X, enuX, zipX, seqX,
  Option.bind, Option.map, Option.bind_some, Option.map_some,
  List.map_cons, List.map_nil, List.length_cons, List.length_nil, List.nil_append, List.cons_append, List.replicate, List.getElem?_cons_zero, List.getElem?_cons_succ, List.set_cons_zero, List.set_cons_succ, List.append_nil,
  if_true, if_false, ite_true, ite_false, Nat.reduceAdd, Int.reduceToNat, Int.reducePow, Nat.reducePow, Int.reduceMul, Int.reduceAdd, Int.reduceSub, Int.reduceLT, Int.reduceLE, Nat.reduceMul, Int.cast_ofNat_Int, Nat.reduceSub, Nat.reduceLT, Nat.reduceLeDiff, ne_eq, reduceCtorEq, not_false_eq_true, not_true_eq_false, Int.reduceEq, Int.reduceNeg, Bool.false_eq_true, Bool.not_true, Bool.not_false, decide_true, decide_false, true_and, and_true, false_and, and_false, or_true, true_or, or_false, false_or, id_eq, Bool.true_eq_false, decide_eq_true_eq, Bool.not_eq_true', decide_eq_false_iff_not, Bool.not_not, blsD, List.all_cons, List.all_nil, List.any_cons, List.any_nil, Bool.and_self, Bool.and_true, Bool.or_false, dFor, dLc, itL, wipeD, backD, isi_NoneType_bool, isi_NoneType_int, isi_NoneType_str, isi_NoneType_tuple, isi_NoneType_list, isi_NoneType_dict, isi_bool_bool, isi_bool_int, isi_bool_str, isi_bool_tuple, isi_bool_list, isi_bool_dict, isi_int_bool, isi_int_int, isi_int_str, isi_int_tuple, isi_int_list, isi_int_dict, isi_str_bool, isi_str_int, isi_str_str, isi_str_tuple, isi_str_list, isi_str_dict, isi_tuple_bool, isi_tuple_int, isi_tuple_str, isi_tuple_tuple, isi_tuple_list, isi_tuple_dict, isi_list_bool, isi_list_int, isi_list_str, isi_list_tuple, isi_list_list, isi_list_dict, isi_dict_bool, isi_dict_int, isi_dict_str, isi_dict_tuple, isi_dict_list, isi_dict_dict, dSlD, dCatN, dLcA, dLcX, dForA, dForX, gStr1, gIsiS, tagS, dJoinS, dIsStr, strsO, gStrA, dRaiseF, dPut, dSt, k_MOST_SIGNS, z, l6, e]
  | some q =>
    rw [hb] at go
    obtain ⟨⟨r', S'⟩, e⟩ := go
    refine ⟨S', ?_⟩
    simp only [g_words, den_words, runD, dD, dNil, dCons, dAnd, dOr, dNotT, dAndV, dOrV, dNotV, dIf, dTru, dCmpT, dSeq, dRet, dSet, dSetN, dIfS, dNx, dDrop, dOp, dNeg, dTup, dLst, dC, dK, dVar, okD, okN, frz, dCall, ofF, dAug, dPar, dApp, dChain, dListOf, dSlL, dRev,
  M.bind, M.pure, M.no, M.ne, dName, dUnit, dConsG, dTupG, gOr, gI, gS, gAdd, gSubI, gMul, gDiv, gMod, gPow, gIx, gLen, gAbs, gInt1, gSum, gAll, gAny, gMaxL, gMinL, gTupOf, g2I, gDm, gPart, gTru, gBool, gBoolO, gEq_pair, gEq_ints, gEq_sl1, gEq_sl2, opL, gEq_int, gEq_str, gEq_bl, gEq_non, gNone, gIn, gSign, gCat, gRep, gIsi,
  iLt, iLe, iGt, iGe, My.isNon, truD, tagD, seqD, lstD, rdlD, mutD, putL, tupD, vsD, rng1X, rng2X, enuX, zipX, seqX,
  Option.bind, Option.map, Option.bind_some, Option.map_some,
  List.map_cons, List.map_nil, List.length_cons, List.length_nil, List.nil_append, List.cons_append, List.replicate, List.getElem?_cons_zero, List.getElem?_cons_succ, List.set_cons_zero, List.set_cons_succ, List.append_nil,
  if_true, if_false, ite_true, ite_false, Nat.reduceAdd, Int.reduceToNat, Int.reducePow, Nat.reducePow, Int.reduceMul, Int.reduceAdd, Int.reduceSub, Int.reduceLT, Int.reduceLE, Nat.reduceMul, Int.cast_ofNat_Int, Nat.reduceSub, Nat.reduceLT, Nat.reduceLeDiff, ne_eq, reduceCtorEq, not_false_eq_true, not_true_eq_false, Int.reduceEq, Int.reduceNeg, Bool.false_eq_true, Bool.not_true, Bool.not_false, decide_true, decide_false, true_and, and_true, false_and, and_false, or_true, true_or, or_false, false_or, id_eq, Bool.true_eq_false, decide_eq_true_eq, Bool.not_eq_true', decide_eq_false_iff_not, Bool.not_not, blsD, List.all_cons, List.all_nil, List.any_cons, List.any_nil, Bool.and_self, Bool.and_true, Bool.or_false, dFor, dLc, itL, wipeD, backD, isi_NoneType_bool, isi_NoneType_int, isi_NoneType_str, isi_NoneType_tuple, isi_NoneType_list, isi_NoneType_dict, isi_bool_bool, isi_bool_int, isi_bool_str, isi_bool_tuple, isi_bool_list, isi_bool_dict, isi_int_bool, isi_int_int, isi_int_str, isi_int_tuple, isi_int_list, isi_int_dict, isi_str_bool, isi_str_int, isi_str_str, isi_str_tuple, isi_str_list, isi_str_dict, isi_tuple_bool, isi_tuple_int, isi_tuple_str, isi_tuple_tuple, isi_tuple_list, isi_tuple_dict, isi_list_bool, isi_list_int, isi_list_str, isi_list_tuple, isi_list_list, isi_list_dict, isi_dict_bool, isi_dict_int, isi_dict_str, isi_dict_tuple, isi_dict_list, isi_dict_dict, dSlD, dCatN, dLcA, dLcX, dForA, dForX, gStr1, gIsiS, tagS, dJoinS, dIsStr, strsO, gStrA, dRaiseF, dPut, dSt, k_MOST_SIGNS, z, l6, e]
theorem words_long {t : Str} (h : ¬ t.length ≤ 6000) (hz : t.length ≤ 1000000) (S : List Cell) : g_words [sD t] S = .ex (bs 0) S := by
  have l6 : ((6000 : Int) < (t.length : Int)) := by omega
  simp only [g_words, den_words, runD, dD, dNil, dCons, dAnd, dOr, dNotT, dAndV, dOrV, dNotV, dIf, dTru, dCmpT, dSeq, dRet, dSet, dSetN, dIfS, dNx, dDrop, dOp, dNeg, dTup, dLst, dC, dK, dVar, okD, okN, frz, dCall, ofF, dAug, dPar, dApp, dChain, dListOf, dSlL, dRev,
  M.bind, M.pure, M.no, M.ne, dName, dUnit, dConsG, dTupG, gOr, gI, gS, gAdd, gSubI, gMul, gDiv, gMod, gPow, gIx, gLen, gAbs, gInt1, gSum, gAll, gAny, gMaxL, gMinL, gTupOf, g2I, gDm, gPart, gTru, gBool, gBoolO, gEq_pair, gEq_ints, gEq_sl1, gEq_sl2, opL, gEq_int, gEq_str, gEq_bl, gEq_non, gNone, gIn, gSign, gCat, gRep, gIsi,
  iLt, iLe, iGt, iGe, My.isNon, truD, tagD, seqD, lstD, rdlD, mutD, putL, tupD, vsD, rng1X, rng2X, enuX, zipX, seqX,
  Option.bind, Option.map, Option.bind_some, Option.map_some,
  List.map_cons, List.map_nil, List.length_cons, List.length_nil, List.nil_append, List.cons_append, List.replicate, List.getElem?_cons_zero, List.getElem?_cons_succ, List.set_cons_zero, List.set_cons_succ, List.append_nil,
  if_true, if_false, ite_true, ite_false, Nat.reduceAdd, Int.reduceToNat, Int.reducePow, Nat.reducePow, Int.reduceMul, Int.reduceAdd, Int.reduceSub, Int.reduceLT, Int.reduceLE, Nat.reduceMul, Int.cast_ofNat_Int, Nat.reduceSub, Nat.reduceLT, Nat.reduceLeDiff, ne_eq, reduceCtorEq, not_false_eq_true, not_true_eq_false, Int.reduceEq, Int.reduceNeg, Bool.false_eq_true, Bool.not_true, Bool.not_false, decide_true, decide_false, true_and, and_true, false_and, and_false, or_true, true_or, or_false, false_or, id_eq, Bool.true_eq_false, decide_eq_true_eq, Bool.not_eq_true', decide_eq_false_iff_not, Bool.not_not, blsD, List.all_cons, List.all_nil, List.any_cons, List.any_nil, Bool.and_self, Bool.and_true, Bool.or_false, dFor, dLc, itL, wipeD, backD, isi_NoneType_bool, isi_NoneType_int, isi_NoneType_str, isi_NoneType_tuple, isi_NoneType_list, isi_NoneType_dict, isi_bool_bool, isi_bool_int, isi_bool_str, isi_bool_tuple, isi_bool_list, isi_bool_dict, isi_int_bool, isi_int_int, isi_int_str, isi_int_tuple, isi_int_list, isi_int_dict, isi_str_bool, isi_str_int, isi_str_str, isi_str_tuple, isi_str_list, isi_str_dict, isi_tuple_bool, isi_tuple_int, isi_tuple_str, isi_tuple_tuple, isi_tuple_list, isi_tuple_dict, isi_list_bool, isi_list_int, isi_list_str, isi_list_tuple, isi_list_list, isi_list_dict, isi_dict_bool, isi_dict_int, isi_dict_str, isi_dict_tuple, isi_dict_list, isi_dict_dict, dSlD, dCatN, dLcA, dLcX, dForA, dForX, gStr1, gIsiS, tagS, dJoinS, dIsStr, strsO, gStrA, dRaiseF, dPut, k_MOST_SIGNS, hz, l6, bs]

def notS : D → Bool
  | .v (.str _) => false
  | _ => true
theorem words_odd {x : D} (h : x = .v .non ∨ (∃ i, x = .v (.int i)) ∨ (∃ b, x = .v (.bl b)) ∨ (∃ l, x = .lst l) ∨ (∃ l, x = .tup l)) (S : List Cell) : g_words [x] S = .ex (bs 0) S := by
  rcases h with rfl | ⟨i, rfl⟩ | ⟨b, rfl⟩ | ⟨l, rfl⟩ | ⟨l, rfl⟩
  · simp only [g_words, den_words, runD, dD, dNil, dCons, dAnd, dOr, dNotT, dAndV, dOrV, dNotV, dIf, dTru, dCmpT, dSeq, dRet, dSet, dSetN, dIfS, dNx, dDrop, dOp, dNeg, dTup, dLst, dC, dK, dVar, okD, okN, frz, dCall, ofF, dAug, dPar, dApp, dChain, dListOf, dSlL, dRev,
  M.bind, M.pure, M.no, M.ne, dName, dUnit, dConsG, dTupG, gOr, gI, gS, gAdd, gSubI, gMul, gDiv, gMod, gPow, gIx, gLen, gAbs, gInt1, gSum, gAll, gAny, gMaxL, gMinL, gTupOf, g2I, gDm, gPart, gTru, gBool, gBoolO, gEq_pair, gEq_ints, gEq_sl1, gEq_sl2, opL, gEq_int, gEq_str, gEq_bl, gEq_non, gNone, gIn, gSign, gCat, gRep, gIsi,
  iLt, iLe, iGt, iGe, My.isNon, truD, tagD, seqD, lstD, rdlD, mutD, putL, tupD, vsD, rng1X, rng2X, enuX, zipX, seqX,
  Option.bind, Option.map, Option.bind_some, Option.map_some,
  List.map_cons, List.map_nil, List.length_cons, List.length_nil, List.nil_append, List.cons_append, List.replicate, List.getElem?_cons_zero, List.getElem?_cons_succ, List.set_cons_zero, List.set_cons_succ, List.append_nil,
  if_true, if_false, ite_true, ite_false, Nat.reduceAdd, Int.reduceToNat, Int.reducePow, Nat.reducePow, Int.reduceMul, Int.reduceAdd, Int.reduceSub, Int.reduceLT, Int.reduceLE, Nat.reduceMul, Int.cast_ofNat_Int, Nat.reduceSub, Nat.reduceLT, Nat.reduceLeDiff, ne_eq, reduceCtorEq, not_false_eq_true, not_true_eq_false, Int.reduceEq, Int.reduceNeg, Bool.false_eq_true, Bool.not_true, Bool.not_false, decide_true, decide_false, true_and, and_true, false_and, and_false, or_true, true_or, or_false, false_or, id_eq, Bool.true_eq_false, decide_eq_true_eq, Bool.not_eq_true', decide_eq_false_iff_not, Bool.not_not, blsD, List.all_cons, List.all_nil, List.any_cons, List.any_nil, Bool.and_self, Bool.and_true, Bool.or_false, dFor, dLc, itL, wipeD, backD, isi_NoneType_bool, isi_NoneType_int, isi_NoneType_str, isi_NoneType_tuple, isi_NoneType_list, isi_NoneType_dict, isi_bool_bool, isi_bool_int, isi_bool_str, isi_bool_tuple, isi_bool_list, isi_bool_dict, isi_int_bool, isi_int_int, isi_int_str, isi_int_tuple, isi_int_list, isi_int_dict, isi_str_bool, isi_str_int, isi_str_str, isi_str_tuple, isi_str_list, isi_str_dict, isi_tuple_bool, isi_tuple_int, isi_tuple_str, isi_tuple_tuple, isi_tuple_list, isi_tuple_dict, isi_list_bool, isi_list_int, isi_list_str, isi_list_tuple, isi_list_list, isi_list_dict, isi_dict_bool, isi_dict_int, isi_dict_str, isi_dict_tuple, isi_dict_list, isi_dict_dict, dSlD, dCatN, dLcA, dLcX, dForA, dForX, gStr1, gIsiS, tagS, dJoinS, dIsStr, strsO, gStrA, dRaiseF, dPut, bs]
  · simp only [g_words, den_words, runD, dD, dNil, dCons, dAnd, dOr, dNotT, dAndV, dOrV, dNotV, dIf, dTru, dCmpT, dSeq, dRet, dSet, dSetN, dIfS, dNx, dDrop, dOp, dNeg, dTup, dLst, dC, dK, dVar, okD, okN, frz, dCall, ofF, dAug, dPar, dApp, dChain, dListOf, dSlL, dRev,
  M.bind, M.pure, M.no, M.ne, dName, dUnit, dConsG, dTupG, gOr, gI, gS, gAdd, gSubI, gMul, gDiv, gMod, gPow, gIx, gLen, gAbs, gInt1, gSum, gAll, gAny, gMaxL, gMinL, gTupOf, g2I, gDm, gPart, gTru, gBool, gBoolO, gEq_pair, gEq_ints, gEq_sl1, gEq_sl2, opL, gEq_int, gEq_str, gEq_bl, gEq_non, gNone, gIn, gSign, gCat, gRep, gIsi,
  iLt, iLe, iGt, iGe, My.isNon, truD, tagD, seqD, lstD, rdlD, mutD, putL, tupD, vsD, rng1X, rng2X, enuX, zipX, seqX,
  Option.bind, Option.map, Option.bind_some, Option.map_some,
  List.map_cons, List.map_nil, List.length_cons, List.length_nil, List.nil_append, List.cons_append, List.replicate, List.getElem?_cons_zero, List.getElem?_cons_succ, List.set_cons_zero, List.set_cons_succ, List.append_nil,
  if_true, if_false, ite_true, ite_false, Nat.reduceAdd, Int.reduceToNat, Int.reducePow, Nat.reducePow, Int.reduceMul, Int.reduceAdd, Int.reduceSub, Int.reduceLT, Int.reduceLE, Nat.reduceMul, Int.cast_ofNat_Int, Nat.reduceSub, Nat.reduceLT, Nat.reduceLeDiff, ne_eq, reduceCtorEq, not_false_eq_true, not_true_eq_false, Int.reduceEq, Int.reduceNeg, Bool.false_eq_true, Bool.not_true, Bool.not_false, decide_true, decide_false, true_and, and_true, false_and, and_false, or_true, true_or, or_false, false_or, id_eq, Bool.true_eq_false, decide_eq_true_eq, Bool.not_eq_true', decide_eq_false_iff_not, Bool.not_not, blsD, List.all_cons, List.all_nil, List.any_cons, List.any_nil, Bool.and_self, Bool.and_true, Bool.or_false, dFor, dLc, itL, wipeD, backD, isi_NoneType_bool, isi_NoneType_int, isi_NoneType_str, isi_NoneType_tuple, isi_NoneType_list, isi_NoneType_dict, isi_bool_bool, isi_bool_int, isi_bool_str, isi_bool_tuple, isi_bool_list, isi_bool_dict, isi_int_bool, isi_int_int, isi_int_str, isi_int_tuple, isi_int_list, isi_int_dict, isi_str_bool, isi_str_int, isi_str_str, isi_str_tuple, isi_str_list, isi_str_dict, isi_tuple_bool, isi_tuple_int, isi_tuple_str, isi_tuple_tuple, isi_tuple_list, isi_tuple_dict, isi_list_bool, isi_list_int, isi_list_str, isi_list_tuple, isi_list_list, isi_list_dict, isi_dict_bool, isi_dict_int, isi_dict_str, isi_dict_tuple, isi_dict_list, isi_dict_dict, dSlD, dCatN, dLcA, dLcX, dForA, dForX, gStr1, gIsiS, tagS, dJoinS, dIsStr, strsO, gStrA, dRaiseF, dPut, bs]
  · simp only [g_words, den_words, runD, dD, dNil, dCons, dAnd, dOr, dNotT, dAndV, dOrV, dNotV, dIf, dTru, dCmpT, dSeq, dRet, dSet, dSetN, dIfS, dNx, dDrop, dOp, dNeg, dTup, dLst, dC, dK, dVar, okD, okN, frz, dCall, ofF, dAug, dPar, dApp, dChain, dListOf, dSlL, dRev,
  M.bind, M.pure, M.no, M.ne, dName, dUnit, dConsG, dTupG, gOr, gI, gS, gAdd, gSubI, gMul, gDiv, gMod, gPow, gIx, gLen, gAbs, gInt1, gSum, gAll, gAny, gMaxL, gMinL, gTupOf, g2I, gDm, gPart, gTru, gBool, gBoolO, gEq_pair, gEq_ints, gEq_sl1, gEq_sl2, opL, gEq_int, gEq_str, gEq_bl, gEq_non, gNone, gIn, gSign, gCat, gRep, gIsi,
  iLt, iLe, iGt, iGe, My.isNon, truD, tagD, seqD, lstD, rdlD, mutD, putL, tupD, vsD, rng1X, rng2X, enuX, zipX, seqX,
  Option.bind, Option.map, Option.bind_some, Option.map_some,
  List.map_cons, List.map_nil, List.length_cons, List.length_nil, List.nil_append, List.cons_append, List.replicate, List.getElem?_cons_zero, List.getElem?_cons_succ, List.set_cons_zero, List.set_cons_succ, List.append_nil,
  if_true, if_false, ite_true, ite_false, Nat.reduceAdd, Int.reduceToNat, Int.reducePow, Nat.reducePow, Int.reduceMul, Int.reduceAdd, Int.reduceSub, Int.reduceLT, Int.reduceLE, Nat.reduceMul, Int.cast_ofNat_Int, Nat.reduceSub, Nat.reduceLT, Nat.reduceLeDiff, ne_eq, reduceCtorEq, not_false_eq_true, not_true_eq_false, Int.reduceEq, Int.reduceNeg, Bool.false_eq_true, Bool.not_true, Bool.not_false, decide_true, decide_false, true_and, and_true, false_and, and_false, or_true, true_or, or_false, false_or, id_eq, Bool.true_eq_false, decide_eq_true_eq, Bool.not_eq_true', decide_eq_false_iff_not, Bool.not_not, blsD, List.all_cons, List.all_nil, List.any_cons, List.any_nil, Bool.and_self, Bool.and_true, Bool.or_false, dFor, dLc, itL, wipeD, backD, isi_NoneType_bool, isi_NoneType_int, isi_NoneType_str, isi_NoneType_tuple, isi_NoneType_list, isi_NoneType_dict, isi_bool_bool, isi_bool_int, isi_bool_str, isi_bool_tuple, isi_bool_list, isi_bool_dict, isi_int_bool, isi_int_int, isi_int_str, isi_int_tuple, isi_int_list, isi_int_dict, isi_str_bool, isi_str_int, isi_str_str, isi_str_tuple, isi_str_list, isi_str_dict, isi_tuple_bool, isi_tuple_int, isi_tuple_str, isi_tuple_tuple, isi_tuple_list, isi_tuple_dict, isi_list_bool, isi_list_int, isi_list_str, isi_list_tuple, isi_list_list, isi_list_dict, isi_dict_bool, isi_dict_int, isi_dict_str, isi_dict_tuple, isi_dict_list, isi_dict_dict, dSlD, dCatN, dLcA, dLcX, dForA, dForX, gStr1, gIsiS, tagS, dJoinS, dIsStr, strsO, gStrA, dRaiseF, dPut, bs]
  · simp only [g_words, den_words, runD, dD, dNil, dCons, dAnd, dOr, dNotT, dAndV, dOrV, dNotV, dIf, dTru, dCmpT, dSeq, dRet, dSet, dSetN, dIfS, dNx, dDrop, dOp, dNeg, dTup, dLst, dC, dK, dVar, okD, okN, frz, dCall, ofF, dAug, dPar, dApp, dChain, dListOf, dSlL, dRev,
  M.bind, M.pure, M.no, M.ne, dName, dUnit, dConsG, dTupG, gOr, gI, gS, gAdd, gSubI, gMul, gDiv, gMod, gPow, gIx, gLen, gAbs, gInt1, gSum, gAll, gAny, gMaxL, gMinL, gTupOf, g2I, gDm, gPart, gTru, gBool, gBoolO, gEq_pair, gEq_ints, gEq_sl1, gEq_sl2, opL, gEq_int, gEq_str, gEq_bl, gEq_non, gNone, gIn, gSign, gCat, gRep, gIsi,
  iLt, iLe, iGt, iGe, My.isNon, truD, tagD, seqD, lstD, rdlD, mutD, putL, tupD, vsD, rng1X, rng2X, enuX, zipX, seqX,
  Option.bind, Option.map, Option.bind_some, Option.map_some,
  List.map_cons, List.map_nil, List.length_cons, List.length_nil, List.nil_append, List.cons_append, List.replicate, List.getElem?_cons_zero, List.getElem?_cons_succ, List.set_cons_zero, List.set_cons_succ, List.append_nil,
  if_true, if_false, ite_true, ite_false, Nat.reduceAdd, Int.reduceToNat, Int.reducePow, Nat.reducePow, Int.reduceMul, Int.reduceAdd, Int.reduceSub, Int.reduceLT, Int.reduceLE, Nat.reduceMul, Int.cast_ofNat_Int, Nat.reduceSub, Nat.reduceLT, Nat.reduceLeDiff, ne_eq, reduceCtorEq, not_false_eq_true, not_true_eq_false, Int.reduceEq, Int.reduceNeg, Bool.false_eq_true, Bool.not_true, Bool.not_false, decide_true, decide_false, true_and, and_true, false_and, and_false, or_true, true_or, or_false, false_or, id_eq, Bool.true_eq_false, decide_eq_true_eq, Bool.not_eq_true', decide_eq_false_iff_not, Bool.not_not, blsD, List.all_cons, List.all_nil, List.any_cons, List.any_nil, Bool.and_self, Bool.and_true, Bool.or_false, dFor, dLc, itL, wipeD, backD, isi_NoneType_bool, isi_NoneType_int, isi_NoneType_str, isi_NoneType_tuple, isi_NoneType_list, isi_NoneType_dict, isi_bool_bool, isi_bool_int, isi_bool_str, isi_bool_tuple, isi_bool_list, isi_bool_dict, isi_int_bool, isi_int_int, isi_int_str, isi_int_tuple, isi_int_list, isi_int_dict, isi_str_bool, isi_str_int, isi_str_str, isi_str_tuple, isi_str_list, isi_str_dict, isi_tuple_bool, isi_tuple_int, isi_tuple_str, isi_tuple_tuple, isi_tuple_list, isi_tuple_dict, isi_list_bool, isi_list_int, isi_list_str, isi_list_tuple, isi_list_list, isi_list_dict, isi_dict_bool, isi_dict_int, isi_dict_str, isi_dict_tuple, isi_dict_list, isi_dict_dict, dSlD, dCatN, dLcA, dLcX, dForA, dForX, gStr1, gIsiS, tagS, dJoinS, dIsStr, strsO, gStrA, dRaiseF, dPut, bs]
  · simp only [g_words, den_words, runD, dD, dNil, dCons, dAnd, dOr, dNotT, dAndV, dOrV, dNotV, dIf, dTru, dCmpT, dSeq, dRet, dSet, dSetN, dIfS, dNx, dDrop, dOp, dNeg, dTup, dLst, dC, dK, dVar, okD, okN, frz, dCall, ofF, dAug, dPar, dApp, dChain, dListOf, dSlL, dRev,
  M.bind, M.pure, M.no, M.ne, dName, dUnit, dConsG, dTupG, gOr, gI, gS, gAdd, gSubI, gMul, gDiv, gMod, gPow, gIx, gLen, gAbs, gInt1, gSum, gAll, gAny, gMaxL, gMinL, gTupOf, g2I, gDm, gPart, gTru, gBool, gBoolO, gEq_pair, gEq_ints, gEq_sl1, gEq_sl2, opL, gEq_int, gEq_str, gEq_bl, gEq_non, gNone, gIn, gSign, gCat, gRep, gIsi,
  iLt, iLe, iGt, iGe, My.isNon, truD, tagD, seqD, lstD, rdlD, mutD, putL, tupD, vsD, rng1X, rng2X, enuX, zipX, seqX,
  Option.bind, Option.map, Option.bind_some, Option.map_some,
  List.map_cons, List.map_nil, List.length_cons, List.length_nil, List.nil_append, List.cons_append, List.replicate, List.getElem?_cons_zero, List.getElem?_cons_succ, List.set_cons_zero, List.set_cons_succ, List.append_nil,
  if_true, if_false, ite_true, ite_false, Nat.reduceAdd, Int.reduceToNat, Int.reducePow, Nat.reducePow, Int.reduceMul, Int.reduceAdd, Int.reduceSub, Int.reduceLT, Int.reduceLE, Nat.reduceMul, Int.cast_ofNat_Int, Nat.reduceSub, Nat.reduceLT, Nat.reduceLeDiff, ne_eq, reduceCtorEq, not_false_eq_true, not_true_eq_false, Int.reduceEq, Int.reduceNeg, Bool.false_eq_true, Bool.not_true, Bool.not_false, decide_true, decide_false, true_and, and_true, false_and, and_false, or_true, true_or, or_false, false_or, id_eq, Bool.true_eq_false, decide_eq_true_eq, Bool.not_eq_true', decide_eq_false_iff_not, Bool.not_not, blsD, List.all_cons, List.all_nil, List.any_cons, List.any_nil, Bool.and_self, Bool.and_true, Bool.or_false, dFor, dLc, itL, wipeD, backD, isi_NoneType_bool, isi_NoneType_int, isi_NoneType_str, isi_NoneType_tuple, isi_NoneType_list, isi_NoneType_dict, isi_bool_bool, isi_bool_int, isi_bool_str, isi_bool_tuple, isi_bool_list, isi_bool_dict, isi_int_bool, isi_int_int, isi_int_str, isi_int_tuple, isi_int_list, isi_int_dict, isi_str_bool, isi_str_int, isi_str_str, isi_str_tuple, isi_str_list, isi_str_dict, isi_tuple_bool, isi_tuple_int, isi_tuple_str, isi_tuple_tuple, isi_tuple_list, isi_tuple_dict, isi_list_bool, isi_list_int, isi_list_str, isi_list_tuple, isi_list_list, isi_list_dict, isi_dict_bool, isi_dict_int, isi_dict_str, isi_dict_tuple, isi_dict_list, isi_dict_dict, dSlD, dCatN, dLcA, dLcX, dForA, dForX, gStr1, gIsiS, tagS, dJoinS, dIsStr, strsO, gStrA, dRaiseF, dPut, bs]
theorem ok_words (T : Tx K mg Env.HallError Env.BadSign Env.BadText Env.BadName Env.BadNumber Env.BadRing Env.BadLoan Env.TooMany Env.NoDoor Env.BadChange Env.BadKept) (h_F_word_from : Okf P w K mg base 3 "word_from" ["text", "at"] g_word_from) (h_X_BadSign : OkX P w K mg base "BadSign" Env.BadSign "spot") : Okf P w K mg base 4 "words" ["text"] g_words := (raw_words T h_F_word_from h_X_BadSign).by eq_words
abbrev slaw_told : Stmt := (top 34)
abbrev Nlaw_told : List Str := ["_law_thing", "_law_e", "_law_k"]
theorem sclaw_told : FnScope Nlaw_told ["_law_thing"] (defScope slaw_told) := ⟨rfl, rfl, rfl, by decide +kernel, rfl, by decide +kernel, by decide +kernel⟩
noncomputable def claw_told1e : M D :=
    (dOp (gEq false) (dVar 2) (dC (.int 0)))
noncomputable def den_law_told : M Fl :=
    (dTry (dRet (dCall g_words (dCons (dD (dVar 0)) dNil))) 1 cat_HallError (fun xa xd xc => (dSeq (dIfS (dOr (dCmpT (gEq true) (okD (dCall (g_law_kinds xa xd xc) (dCons (dD (dVar 1)) dNil))) (okN (dLc (M.bind (dCons (dD (dC (.int 10))) dNil) rng1X) (dName 2) (M.pure true) claw_told1e [2]))) (dTru (okD (M.bind (M.bind (dD (dVar 1)) (gXf xa xd xc Xf_spot "spot")) (gIsiS "bool"))))) (dRet (dD (dC .non))) dNx)
    (dRet (M.bind (dD (dVar 1)) (gXf xa xd xc Xf_spot "spot"))))))
theorem raw_law_told (T : Tx K mg Env.HallError Env.BadSign Env.BadText Env.BadName Env.BadNumber Env.BadRing Env.BadLoan Env.TooMany Env.NoDoor Env.BadChange Env.BadKept) (h_F__law_kinds : OkP P w K mg base 1 "_law_kinds" ["_law_e"] g_law_kinds) (h_F_words : Okf P w K mg base 4 "words" ["text"] g_words) : Okf P w K mg base 5 "_law_told" ["_law_thing"] (runD 3 1 den_law_told) := by
  have sc := sclaw_told
  exact ok_has (N := Nlaw_told) T.d_law_told sc rfl (by decide) fun f cdv A outer s H E hr => ⟨_, ((bd_one (sd_try (i := 1) rfl rfl sc.nd rfl rfl ⟨by rfl, by decide, .inl T.g_HallError⟩ (L2N.takes_of rfl rfl rfl rfl) (cat_HallError_ok T) (fun W2 pn xe tk => (bd_one (sd_ret (dd_fn h_F_words (hr.mono (by decide)) (by rfl) (pol_of tk) (ad_cons (ED.d (ed_var 0)) ad_nil))))) (fun xa oe xc xd pn hz hv => (bd_cons (sd_if (td_w (wd_or (td_cmp (cNe (by exact hr.units)) (DD.e (dd_callP h_F__law_kinds List.mem_cons_self hz hv (L2H.roomH_mark (hr.mono (by decide)) _) (by rfl) (ad_cons (ED.d (ed_var 1)) ad_nil))) (EN.e (en_lcH (own := [("_law_k", 2)]) (W' := W0) hz hv rfl List.mem_cons_self sc.nd (id_range1H (by rfl) T.n_range (ad_cons (ED.d ed_int) ad_nil)) (blkOk_by (N := Nlaw_told) (sc := defScope slaw_told) (by decide +kernel)) (fun _ _ _ _ _ => (gd_name (i := 2) sc.nd rfl (by first | exact Or.inl rfl | exact Or.inr rfl))) (fun _ _ _ _ _ => tsd_nil) (fun _ _ _ _ _ => (dd_cmp (cEq (by exact hr.units)) (ed_var 2) ed_int (nomark _))))) (nomark _)) (wd_or1 (td_val (DD.e (dd_isiS (x := "bool") (cl := "bool") (by rfl) T.n_isinstance (by decide +kernel) (dd_xf (xfT_spot T) hz hv (ED.d (ed_var 1))) (by rfl) T.n_bool (by decide +kernel))))))) (bd_one (sd_ret (ED.d ed_non))) bd_nil)
    (bd_one (sd_ret (dd_xf (xfT_spot T) hz hv (ED.d (ed_var 1))))))))) : BD _ _ _ _ den_law_told)⟩
noncomputable def g_law_told : G := runD 3 1 den_law_told
theorem eq_law_told : ∀ ds S, g_law_told ds S ≠ .no → runD 3 1 den_law_told ds S = g_law_told ds S := fun _ _ _ => rfl

theorem tens (x0 x1 : Slot) (r0 : List Slot) (S : List Cell) : itL (dName 2) (M.pure true) claw_told1e [2] r0 (rngD 0 10) [] ⟨[x0, x1, .no], S⟩ = .ok tenB ⟨[x0, x1, .no], S⟩ := by
  have e := itL_map (dg := dName 2) (dt := M.pure true) (de := claw_told1e) (vs := [2]) (r0 := r0) (w := [x0, x1, .no]) (S := S) (p := fun _ => true) (f := fun d => match d with | .v (.int j) => .v (.bl (decide (j = 0))) | _ => d) (rngD 0 10) [] ⟨[x0, x1, .no], S⟩ rfl rfl (by simp [rngD]) (fun d hd => by
    unfold rngD at hd
    obtain ⟨k, hk, rfl⟩ := List.mem_map.mp hd
    generalize (0 + ((k : Nat) : Int)) = z
    refine ⟨_, rfl, _, rfl, rfl, rfl, fun _ => ⟨⟨[x0, x1, .d (.v (.int z))], S⟩, ?_, rfl, rfl⟩⟩
    simp only [claw_told1e, runD, dD, dNil, dCons, dAnd, dOr, dNotT, dAndV, dOrV, dNotV, dIf, dTru, dCmpT, dSeq, dRet, dSet, dSetN, dIfS, dNx, dDrop, dOp, dNeg, dTup, dLst, dC, dK, dVar, okD, okN, frz, dCall, ofF, dAug, dPar, dApp, dChain, dListOf, dSlL, dRev,
  M.bind, M.pure, M.no, M.ne, dName, dUnit, dConsG, dTupG, gOr, gI, gS, gAdd, gSubI, gMul, gDiv, gMod, gPow, gIx, gLen, gAbs, gInt1, gSum, gAll, gAny, gMaxL, gMinL, gTupOf, g2I, gDm, gPart, gTru, gBool, gBoolO, gEq_pair, gEq_ints, gEq_sl1, gEq_sl2, opL, gEq_int, gEq_str, gEq_bl, gEq_non, gNone, gIn, gSign, gCat, gRep, gIsi,
  iLt, iLe, iGt, iGe, My.isNon, truD, tagD, seqD, lstD, rdlD, mutD, putL, tupD, vsD, rng1X, rng2X, enuX, zipX, seqX,
  Option.bind, Option.map, Option.bind_some, Option.map_some,
  List.map_cons, List.map_nil, List.length_cons, List.length_nil, List.nil_append, List.cons_append, List.replicate, List.getElem?_cons_zero, List.getElem?_cons_succ, List.set_cons_zero, List.set_cons_succ, List.append_nil,
  if_true, if_false, ite_true, ite_false, Nat.reduceAdd, Int.reduceToNat, Int.reducePow, Nat.reducePow, Int.reduceMul, Int.reduceAdd, Int.reduceSub, Int.reduceLT, Int.reduceLE, Nat.reduceMul, Int.cast_ofNat_Int, Nat.reduceSub, Nat.reduceLT, Nat.reduceLeDiff, ne_eq, reduceCtorEq, not_false_eq_true, not_true_eq_false, Int.reduceEq, Int.reduceNeg, Bool.false_eq_true, Bool.not_true, Bool.not_false, decide_true, decide_false, true_and, and_true, false_and, and_false, or_true, true_or, or_false, false_or, id_eq, Bool.true_eq_false, decide_eq_true_eq, Bool.not_eq_true', decide_eq_false_iff_not, Bool.not_not, blsD, List.all_cons, List.all_nil, List.any_cons, List.any_nil, Bool.and_self, Bool.and_true, Bool.or_false, dFor, dLc, itL, wipeD, backD, isi_NoneType_bool, isi_NoneType_int, isi_NoneType_str, isi_NoneType_tuple, isi_NoneType_list, isi_NoneType_dict, isi_bool_bool, isi_bool_int, isi_bool_str, isi_bool_tuple, isi_bool_list, isi_bool_dict, isi_int_bool, isi_int_int, isi_int_str, isi_int_tuple, isi_int_list, isi_int_dict, isi_str_bool, isi_str_int, isi_str_str, isi_str_tuple, isi_str_list, isi_str_dict, isi_tuple_bool, isi_tuple_int, isi_tuple_str, isi_tuple_tuple, isi_tuple_list, isi_tuple_dict, isi_list_bool, isi_list_int, isi_list_str, isi_list_tuple, isi_list_list, isi_list_dict, isi_dict_bool, isi_dict_int, isi_dict_str, isi_dict_tuple, isi_dict_list, isi_dict_dict])
  have r : ((rngD 0 10).filter fun _ => true).map (fun d => match d with | .v (.int j) => D.v (.bl (decide (j = 0))) | _ => d) = tenB := by rfl
  rw [r, List.nil_append] at e
  exact e
theorem ten_eq (c : Stt) : gEq true (.d (.lst tenB)) (.d (.lst tenB)) c = .ok (.v (.bl false)) c := by
  unfold gEq
  have p : pyO c (.d (.lst tenB)) = some (.list [.bool true, .bool false, .bool false, .bool false, .bool false, .bool false, .bool false, .bool false, .bool false, .bool false]) := rfl
  rw [p]
  rfl
theorem told_ex {x : D} {q : Int} {S S' : List Cell} (h : g_words [x] S = .ex (bs q) S') : g_law_told [x] S = .ok (.v (.int q)) S' := by
  have e : dRet (dCall g_words (dCons (dD (dVar 0)) dNil)) ⟨[.d x, .no, .no], S⟩ = .ex (bs q) ⟨[.d x, .no, .no], S'⟩ := by
    simp only [runD, dD, dNil, dCons, dAnd, dOr, dNotT, dAndV, dOrV, dNotV, dIf, dTru, dCmpT, dSeq, dRet, dSet, dSetN, dIfS, dNx, dDrop, dOp, dNeg, dTup, dLst, dC, dK, dVar, okD, okN, frz, dCall, ofF, dAug, dPar, dApp, dChain, dListOf, dSlL, dRev,
  M.bind, M.pure, M.no, M.ne, dName, dUnit, dConsG, dTupG, gOr, gI, gS, gAdd, gSubI, gMul, gDiv, gMod, gPow, gIx, gLen, gAbs, gInt1, gSum, gAll, gAny, gMaxL, gMinL, gTupOf, g2I, gDm, gPart, gTru, gBool, gBoolO, gEq_pair, gEq_ints, gEq_sl1, gEq_sl2, opL, gEq_int, gEq_str, gEq_bl, gEq_non, gNone, gIn, gSign, gCat, gRep, gIsi,
  iLt, iLe, iGt, iGe, My.isNon, truD, tagD, seqD, lstD, rdlD, mutD, putL, tupD, vsD, rng1X, rng2X, enuX, zipX, seqX,
  Option.bind, Option.map, Option.bind_some, Option.map_some,
  List.map_cons, List.map_nil, List.length_cons, List.length_nil, List.nil_append, List.cons_append, List.replicate, List.getElem?_cons_zero, List.getElem?_cons_succ, List.set_cons_zero, List.set_cons_succ, List.append_nil,
  if_true, if_false, ite_true, ite_false, Nat.reduceAdd, Int.reduceToNat, Int.reducePow, Nat.reducePow, Int.reduceMul, Int.reduceAdd, Int.reduceSub, Int.reduceLT, Int.reduceLE, Nat.reduceMul, Int.cast_ofNat_Int, Nat.reduceSub, Nat.reduceLT, Nat.reduceLeDiff, ne_eq, reduceCtorEq, not_false_eq_true, not_true_eq_false, Int.reduceEq, Int.reduceNeg, Bool.false_eq_true, Bool.not_true, Bool.not_false, decide_true, decide_false, true_and, and_true, false_and, and_false, or_true, true_or, or_false, false_or, id_eq, Bool.true_eq_false, decide_eq_true_eq, Bool.not_eq_true', decide_eq_false_iff_not, Bool.not_not, blsD, List.all_cons, List.all_nil, List.any_cons, List.any_nil, Bool.and_self, Bool.and_true, Bool.or_false, dFor, dLc, itL, wipeD, backD, isi_NoneType_bool, isi_NoneType_int, isi_NoneType_str, isi_NoneType_tuple, isi_NoneType_list, isi_NoneType_dict, isi_bool_bool, isi_bool_int, isi_bool_str, isi_bool_tuple, isi_bool_list, isi_bool_dict, isi_int_bool, isi_int_int, isi_int_str, isi_int_tuple, isi_int_list, isi_int_dict, isi_str_bool, isi_str_int, isi_str_str, isi_str_tuple, isi_str_list, isi_str_dict, isi_tuple_bool, isi_tuple_int, isi_tuple_str, isi_tuple_tuple, isi_tuple_list, isi_tuple_dict, isi_list_bool, isi_list_int, isi_list_str, isi_list_tuple, isi_list_list, isi_list_dict, isi_dict_bool, isi_dict_int, isi_dict_str, isi_dict_tuple, isi_dict_list, isi_dict_dict, h]
  have t := dTry_ex (i := 1) (cat := cat_HallError) (hd := fun xa xd xc => (dSeq (dIfS (dOr (dCmpT (gEq true) (okD (dCall (g_law_kinds xa xd xc) (dCons (dD (dVar 1)) dNil))) (okN (dLc (M.bind (dCons (dD (dC (.int 10))) dNil) rng1X) (dName 2) (M.pure true) claw_told1e [2]))) (dTru (okD (M.bind (M.bind (dD (dVar 1)) (gXf xa xd xc Xf_spot "spot")) (gIsiS "bool"))))) (dRet (dD (dC .non))) dNx)
    (dRet (M.bind (dD (dVar 1)) (gXf xa xd xc Xf_spot "spot"))))) e (C := Env.BadSign) (by simp [cat_HallError]) (r := .ok (.rt (.v (.int q))) ⟨[.d x, .no, .no], S'⟩) (fun a od ho => by
    have k := kinds_ok a od (some ("spot", .v (.int q))) S'
    have xf := gXf_ok (a := a) (od := od) (C := Env.BadSign) (tbl := Xf_spot) (f := "spot") (y := .v (.int q)) (by simp [Xf_spot])
    have t1 := fun r0 => tens (.d x) (.d (.exn a od (.ref Env.BadSign) (some ("spot", .v (.int q))))) r0 S'
    simp only [runD, dD, dNil, dCons, dAnd, dOr, dNotT, dAndV, dOrV, dNotV, dIf, dTru, dCmpT, dSeq, dRet, dSet, dSetN, dIfS, dNx, dDrop, dOp, dNeg, dTup, dLst, dC, dK, dVar, okD, okN, frz, dCall, ofF, dAug, dPar, dApp, dChain, dListOf, dSlL, dRev,
  M.bind, M.pure, M.no, M.ne, dName, dUnit, dConsG, dTupG, gOr, gI, gS, gAdd, gSubI, gMul, gDiv, gMod, gPow, gIx, gLen, gAbs, gInt1, gSum, gAll, gAny, gMaxL, gMinL, gTupOf, g2I, gDm, gPart, gTru, gBool, gBoolO, gEq_pair, gEq_ints, gEq_sl1, gEq_sl2, opL, gEq_int, gEq_str, gEq_bl, gEq_non, gNone, gIn, gSign, gCat, gRep, gIsi,
  iLt, iLe, iGt, iGe, My.isNon, truD, tagD, seqD, lstD, rdlD, mutD, putL, tupD, vsD, rng1X, rng2X, enuX, zipX, seqX,
  Option.bind, Option.map, Option.bind_some, Option.map_some,
  List.map_cons, List.map_nil, List.length_cons, List.length_nil, List.nil_append, List.cons_append, List.replicate, List.getElem?_cons_zero, List.getElem?_cons_succ, List.set_cons_zero, List.set_cons_succ, List.append_nil,
  if_true, if_false, ite_true, ite_false, Nat.reduceAdd, Int.reduceToNat, Int.reducePow, Nat.reducePow, Int.reduceMul, Int.reduceAdd, Int.reduceSub, Int.reduceLT, Int.reduceLE, Nat.reduceMul, Int.cast_ofNat_Int, Nat.reduceSub, Nat.reduceLT, Nat.reduceLeDiff, ne_eq, reduceCtorEq, not_false_eq_true, not_true_eq_false, Int.reduceEq, Int.reduceNeg, Bool.false_eq_true, Bool.not_true, Bool.not_false, decide_true, decide_false, true_and, and_true, false_and, and_false, or_true, true_or, or_false, false_or, id_eq, Bool.true_eq_false, decide_eq_true_eq, Bool.not_eq_true', decide_eq_false_iff_not, Bool.not_not, blsD, List.all_cons, List.all_nil, List.any_cons, List.any_nil, Bool.and_self, Bool.and_true, Bool.or_false, dFor, dLc, wipeD, backD, isi_NoneType_bool, isi_NoneType_int, isi_NoneType_str, isi_NoneType_tuple, isi_NoneType_list, isi_NoneType_dict, isi_bool_bool, isi_bool_int, isi_bool_str, isi_bool_tuple, isi_bool_list, isi_bool_dict, isi_int_bool, isi_int_int, isi_int_str, isi_int_tuple, isi_int_list, isi_int_dict, isi_str_bool, isi_str_int, isi_str_str, isi_str_tuple, isi_str_list, isi_str_dict, isi_tuple_bool, isi_tuple_int, isi_tuple_str, isi_tuple_tuple, isi_tuple_list, isi_tuple_dict, isi_list_bool, isi_list_int, isi_list_str, isi_list_tuple, isi_list_list, isi_list_dict, isi_dict_bool, isi_dict_int, isi_dict_str, isi_dict_tuple, isi_dict_list, isi_dict_dict, dSlD, dCatN, dLcA, dLcX, dForA, dForX, gStr1, gIsiS, tagS, dJoinS, dIsStr, strsO, gStrA, dRaiseF, dPut, dLc, backD, wipeD, k, xf, t1, ten_eq, wipeR])
  simp only [g_law_told, den_law_told, runD, dD, dNil, dCons, dAnd, dOr, dNotT, dAndV, dOrV, dNotV, dIf, dTru, dCmpT, dSeq, dRet, dSet, dSetN, dIfS, dNx, dDrop, dOp, dNeg, dTup, dLst, dC, dK, dVar, okD, okN, frz, dCall, ofF, dAug, dPar, dApp, dChain, dListOf, dSlL, dRev,
  M.bind, M.pure, M.no, M.ne, dName, dUnit, dConsG, dTupG, gOr, gI, gS, gAdd, gSubI, gMul, gDiv, gMod, gPow, gIx, gLen, gAbs, gInt1, gSum, gAll, gAny, gMaxL, gMinL, gTupOf, g2I, gDm, gPart, gTru, gBool, gBoolO, gEq_pair, gEq_ints, gEq_sl1, gEq_sl2, opL, gEq_int, gEq_str, gEq_bl, gEq_non, gNone, gIn, gSign, gCat, gRep, gIsi,
  iLt, iLe, iGt, iGe, My.isNon, truD, tagD, seqD, lstD, rdlD, mutD, putL, tupD, vsD, rng1X, rng2X, enuX, zipX, seqX,
  Option.bind, Option.map, Option.bind_some, Option.map_some,
  List.map_cons, List.map_nil, List.length_cons, List.length_nil, List.nil_append, List.cons_append, List.replicate, List.getElem?_cons_zero, List.getElem?_cons_succ, List.set_cons_zero, List.set_cons_succ, List.append_nil,
  if_true, if_false, ite_true, ite_false, Nat.reduceAdd, Int.reduceToNat, Int.reducePow, Nat.reducePow, Int.reduceMul, Int.reduceAdd, Int.reduceSub, Int.reduceLT, Int.reduceLE, Nat.reduceMul, Int.cast_ofNat_Int, Nat.reduceSub, Nat.reduceLT, Nat.reduceLeDiff, ne_eq, reduceCtorEq, not_false_eq_true, not_true_eq_false, Int.reduceEq, Int.reduceNeg, Bool.false_eq_true, Bool.not_true, Bool.not_false, decide_true, decide_false, true_and, and_true, false_and, and_false, or_true, true_or, or_false, false_or, id_eq, Bool.true_eq_false, decide_eq_true_eq, Bool.not_eq_true', decide_eq_false_iff_not, Bool.not_not, blsD, List.all_cons, List.all_nil, List.any_cons, List.any_nil, Bool.and_self, Bool.and_true, Bool.or_false, dFor, dLc, wipeD, backD, isi_NoneType_bool, isi_NoneType_int, isi_NoneType_str, isi_NoneType_tuple, isi_NoneType_list, isi_NoneType_dict, isi_bool_bool, isi_bool_int, isi_bool_str, isi_bool_tuple, isi_bool_list, isi_bool_dict, isi_int_bool, isi_int_int, isi_int_str, isi_int_tuple, isi_int_list, isi_int_dict, isi_str_bool, isi_str_int, isi_str_str, isi_str_tuple, isi_str_list, isi_str_dict, isi_tuple_bool, isi_tuple_int, isi_tuple_str, isi_tuple_tuple, isi_tuple_list, isi_tuple_dict, isi_list_bool, isi_list_int, isi_list_str, isi_list_tuple, isi_list_list, isi_list_dict, isi_dict_bool, isi_dict_int, isi_dict_str, isi_dict_tuple, isi_dict_list, isi_dict_dict] at t ⊢
  rw [t]
theorem told_go {x d : D} {S S' : List Cell} (h : g_words [x] S = .ok d S') : g_law_told [x] S = .ok d S' := by
  have e : dRet (dCall g_words (dCons (dD (dVar 0)) dNil)) ⟨[.d x, .no, .no], S⟩ = .ok (.rt d) ⟨[.d x, .no, .no], S'⟩ := by
    simp only [runD, dD, dNil, dCons, dAnd, dOr, dNotT, dAndV, dOrV, dNotV, dIf, dTru, dCmpT, dSeq, dRet, dSet, dSetN, dIfS, dNx, dDrop, dOp, dNeg, dTup, dLst, dC, dK, dVar, okD, okN, frz, dCall, ofF, dAug, dPar, dApp, dChain, dListOf, dSlL, dRev,
  M.bind, M.pure, M.no, M.ne, dName, dUnit, dConsG, dTupG, gOr, gI, gS, gAdd, gSubI, gMul, gDiv, gMod, gPow, gIx, gLen, gAbs, gInt1, gSum, gAll, gAny, gMaxL, gMinL, gTupOf, g2I, gDm, gPart, gTru, gBool, gBoolO, gEq_pair, gEq_ints, gEq_sl1, gEq_sl2, opL, gEq_int, gEq_str, gEq_bl, gEq_non, gNone, gIn, gSign, gCat, gRep, gIsi,
  iLt, iLe, iGt, iGe, My.isNon, truD, tagD, seqD, lstD, rdlD, mutD, putL, tupD, vsD, rng1X, rng2X, enuX, zipX, seqX,
  Option.bind, Option.map, Option.bind_some, Option.map_some,
  List.map_cons, List.map_nil, List.length_cons, List.length_nil, List.nil_append, List.cons_append, List.replicate, List.getElem?_cons_zero, List.getElem?_cons_succ, List.set_cons_zero, List.set_cons_succ, List.append_nil,
  if_true, if_false, ite_true, ite_false, Nat.reduceAdd, Int.reduceToNat, Int.reducePow, Nat.reducePow, Int.reduceMul, Int.reduceAdd, Int.reduceSub, Int.reduceLT, Int.reduceLE, Nat.reduceMul, Int.cast_ofNat_Int, Nat.reduceSub, Nat.reduceLT, Nat.reduceLeDiff, ne_eq, reduceCtorEq, not_false_eq_true, not_true_eq_false, Int.reduceEq, Int.reduceNeg, Bool.false_eq_true, Bool.not_true, Bool.not_false, decide_true, decide_false, true_and, and_true, false_and, and_false, or_true, true_or, or_false, false_or, id_eq, Bool.true_eq_false, decide_eq_true_eq, Bool.not_eq_true', decide_eq_false_iff_not, Bool.not_not, blsD, List.all_cons, List.all_nil, List.any_cons, List.any_nil, Bool.and_self, Bool.and_true, Bool.or_false, dFor, dLc, itL, wipeD, backD, isi_NoneType_bool, isi_NoneType_int, isi_NoneType_str, isi_NoneType_tuple, isi_NoneType_list, isi_NoneType_dict, isi_bool_bool, isi_bool_int, isi_bool_str, isi_bool_tuple, isi_bool_list, isi_bool_dict, isi_int_bool, isi_int_int, isi_int_str, isi_int_tuple, isi_int_list, isi_int_dict, isi_str_bool, isi_str_int, isi_str_str, isi_str_tuple, isi_str_list, isi_str_dict, isi_tuple_bool, isi_tuple_int, isi_tuple_str, isi_tuple_tuple, isi_tuple_list, isi_tuple_dict, isi_list_bool, isi_list_int, isi_list_str, isi_list_tuple, isi_list_list, isi_list_dict, isi_dict_bool, isi_dict_int, isi_dict_str, isi_dict_tuple, isi_dict_list, isi_dict_dict, h]
  have t := fun hd => dTry_ok (i := 1) (cat := cat_HallError) (hd := hd) e
  simp only [g_law_told, den_law_told, runD, dD, dNil, dCons, dAnd, dOr, dNotT, dAndV, dOrV, dNotV, dIf, dTru, dCmpT, dSeq, dRet, dSet, dSetN, dIfS, dNx, dDrop, dOp, dNeg, dTup, dLst, dC, dK, dVar, okD, okN, frz, dCall, ofF, dAug, dPar, dApp, dChain, dListOf, dSlL, dRev,
  M.bind, M.pure, M.no, M.ne, dName, dUnit, dConsG, dTupG, gOr, gI, gS, gAdd, gSubI, gMul, gDiv, gMod, gPow, gIx, gLen, gAbs, gInt1, gSum, gAll, gAny, gMaxL, gMinL, gTupOf, g2I, gDm, gPart, gTru, gBool, gBoolO, gEq_pair, gEq_ints, gEq_sl1, gEq_sl2, opL, gEq_int, gEq_str, gEq_bl, gEq_non, gNone, gIn, gSign, gCat, gRep, gIsi,
  iLt, iLe, iGt, iGe, My.isNon, truD, tagD, seqD, lstD, rdlD, mutD, putL, tupD, vsD, rng1X, rng2X, enuX, zipX, seqX,
  Option.bind, Option.map, Option.bind_some, Option.map_some,
  List.map_cons, List.map_nil, List.length_cons, List.length_nil, List.nil_append, List.cons_append, List.replicate, List.getElem?_cons_zero, List.getElem?_cons_succ, List.set_cons_zero, List.set_cons_succ, List.append_nil,
  if_true, if_false, ite_true, ite_false, Nat.reduceAdd, Int.reduceToNat, Int.reducePow, Nat.reducePow, Int.reduceMul, Int.reduceAdd, Int.reduceSub, Int.reduceLT, Int.reduceLE, Nat.reduceMul, Int.cast_ofNat_Int, Nat.reduceSub, Nat.reduceLT, Nat.reduceLeDiff, ne_eq, reduceCtorEq, not_false_eq_true, not_true_eq_false, Int.reduceEq, Int.reduceNeg, Bool.false_eq_true, Bool.not_true, Bool.not_false, decide_true, decide_false, true_and, and_true, false_and, and_false, or_true, true_or, or_false, false_or, id_eq, Bool.true_eq_false, decide_eq_true_eq, Bool.not_eq_true', decide_eq_false_iff_not, Bool.not_not, blsD, List.all_cons, List.all_nil, List.any_cons, List.any_nil, Bool.and_self, Bool.and_true, Bool.or_false, dFor, dLc, wipeD, backD, isi_NoneType_bool, isi_NoneType_int, isi_NoneType_str, isi_NoneType_tuple, isi_NoneType_list, isi_NoneType_dict, isi_bool_bool, isi_bool_int, isi_bool_str, isi_bool_tuple, isi_bool_list, isi_bool_dict, isi_int_bool, isi_int_int, isi_int_str, isi_int_tuple, isi_int_list, isi_int_dict, isi_str_bool, isi_str_int, isi_str_str, isi_str_tuple, isi_str_list, isi_str_dict, isi_tuple_bool, isi_tuple_int, isi_tuple_str, isi_tuple_tuple, isi_tuple_list, isi_tuple_dict, isi_list_bool, isi_list_int, isi_list_str, isi_list_tuple, isi_list_list, isi_list_dict, isi_dict_bool, isi_dict_int, isi_dict_str, isi_dict_tuple, isi_dict_list, isi_dict_dict] at t ⊢
  rw [t]
theorem ok_law_told (T : Tx K mg Env.HallError Env.BadSign Env.BadText Env.BadName Env.BadNumber Env.BadRing Env.BadLoan Env.TooMany Env.NoDoor Env.BadChange Env.BadKept) (h_F__law_kinds : OkP P w K mg base 1 "_law_kinds" ["_law_e"] g_law_kinds) (h_F_words : Okf P w K mg base 4 "words" ["text"] g_words) : Okf P w K mg base 5 "_law_told" ["_law_thing"] g_law_told := (raw_law_told T h_F__law_kinds h_F_words).by eq_law_told
abbrev slaw : Stmt := (top 37)
abbrev Nlaw : List Str := ["_law_script", "_law_text_here", "_law_due_here", "_law_held", "_law_turn", "_law_found", "_law_cell", "_law_odd_here", "_law_some", "_law_word", "_law_one"]
theorem sclaw : FnScope Nlaw ["_law_script"] (defScope slaw) := ⟨rfl, rfl, rfl, by decide +kernel, rfl, by decide +kernel, by decide +kernel⟩
noncomputable def claw1e : M D :=
    (dD (dVar 10))
noncomputable def claw1t : M Bool :=
    (dCmpT (gEq true) (dVar 10) (okD (dOp gAdd (dVar 2) (okN (dLst (dCons (dD (dC (.str "more"))) dNil))))))
noncomputable def flaw1b : M Fl :=
    (dIfS (dNotT (dTru (okD (dCall g_law_name_right (dCons (dD (dVar 9)) dNil))))) (dRet (dD (dC (.bl false)))) dNx)
noncomputable def claw2e : M D :=
    (M.bind (dD (dVar 9)) (gIsiS "str"))
noncomputable def flaw2b : M Fl :=
    (dSeq (dSet 5 (dCall g_law_told (dCons (dD (dVar 1)) dNil)))
    (dSeq (dIfS (dOr (dTru (okD (M.bind (dD (dVar 5)) (gIsiS "bool")))) (dOr (dCmpT (gEq true) (okD (M.bind (dD (dVar 5)) (gIsiS "list"))) (okD (M.bind (dD (dVar 2)) (gIsiS "list")))) (dCmpT (gEq true) (dVar 5) (dVar 2)))) (dRet (dD (dC (.bl false)))) dNx)
    (dIfS (dTru (okD (M.bind (dD (dVar 5)) (gIsiS "list")))) (dSeq (dIfS (dNotT (dTru (okD (M.bind (okN (dLcA (dD (dVar 5)) (dName 9) (M.pure true) claw2e [9])) gAll)))) (dRet (dD (dC (.bl false)))) dNx)
    (dSeq (dDrop (okD (dApp (dVar 5) (dD (dC (.str "more"))))))
    (dDrop (okD (dApp (dVar 3) (dD (dVar 5))))))) dNx)))
noncomputable def den_law : M Fl :=
    (dSeq (dSet 1 (dCall g_law_text (dCons (dD (dVar 0)) dNil)))
    (dSeq (dSet 2 (dCall g_law_due (dCons (dD (dVar 1)) dNil)))
    (dSeq (dSetN 3 (dLst dNil))
    (dSeq (dFor (M.bind (dCons (dD (dC (.int 2))) dNil) rng1X) (dName 4) flaw2b)
    (dSeq (dSet 6 (dOp gDiv (okD (dCall g_law_mixed (dCons (dCall g_law_cell_at (dCons (dD (dVar 0)) (dCons (dD (dC (.int 0))) dNil))) (dCons (dD (dC (.int 42))) dNil)))) (dC (.int 7))))
    (dSeq (dSet 7 (dOp gIx (okN (dLst (dCons (dD (dC .non)) (dCons (dD (dC (.int 5))) (dCons (dD (dC (.bl true))) (dCons (dD (okN (dLst (dCons (dD (dC (.str "a"))) dNil)))) (dCons (dTup (dCons (dD (dC (.str "a"))) dNil)) (dCons dDct (dCons (dD (dC (.int 0))) (dCons (dD (okN (dLst (dCons (dD (dVar 1)) dNil)))) dNil)))))))))) (okD (dOp gMod (dVar 6) (dC (.int 8))))))
    (dSeq (dIfS (dOr (dCmpT (gEq true) (okD (dCall g_law_told (dCons (dD (dVar 7)) dNil))) (dC (.int 0))) (dOr (dNotT (dTru (okD (M.bind (dD (dK k_TOLD)) (gIsiS "tuple"))))) (dCmpT (gEq true) (okD (M.bind (dK k_TOLD) gSortS)) (okD (M.bind (okD (dCall0 g_law_told_words)) gSortS))))) (dRet (dD (dC (.bl false)))) dNx)
    (dSeq (dSetN 8 (dLst (dCons (dCall g_law_piece (dCons (dOp gDiv (dVar 6) (dC (.int 8))) dNil)) (dCons (dCall g_law_odd (dCons (dOp gDiv (dVar 6) (dC (.int 9))) dNil)) (dCons (dOp gAdd (okD (dCall g_law_piece (dCons (dOp gDiv (dVar 6) (dC (.int 10))) dNil))) (okD (dCall g_law_piece (dCons (dOp gDiv (dVar 6) (dC (.int 11))) dNil)))) (dCons (dD (dC (.str ""))) dNil))))))
    (dSeq (dForA (dOp gAdd (dVar 8) (okN (dLst (dCons (dOp gAdd (okD (dCall g_law_piece (dCons (dOp gAdd (okD (dOp gMul (okD (dOp gDiv (dVar 6) (dC (.int 12)))) (dC (.int 5)))) (dC (.int 1))) dNil))) (dC (.str "\n"))) dNil)))) (dName 9) flaw1b)
    (dSeq (dIfS (dNotT (dTru (okD (dCall g_law_by_hand (dCons (dOp gDiv (dVar 6) (dC (.int 13))) dNil))))) (dRet (dD (dC (.bl false)))) dNx)
    (dRet (dOp (gEq false) (okN (dLcA (dD (dVar 3)) (dName 10) claw1t claw1e [10])) (okN (dLst dNil))))))))))))))
theorem raw_law (T : Tx K mg Env.HallError Env.BadSign Env.BadText Env.BadName Env.BadNumber Env.BadRing Env.BadLoan Env.TooMany Env.NoDoor Env.BadChange Env.BadKept) (h_F__law_by_hand : Okf P w K mg base 3 "_law_by_hand" ["_law_cell"] g_law_by_hand) (h_F__law_cell_at : Okf P w K mg base 1 "_law_cell_at" ["_law_script", "_law_k"] g_law_cell_at) (h_F__law_due : Okf P w K mg base 2 "_law_due" ["_law_text_here"] g_law_due) (h_F__law_mixed : Okf P w K mg base 1 "_law_mixed" ["_law_cell", "_law_k"] g_law_mixed) (h_F__law_name_right : Okf P w K mg base 2 "_law_name_right" ["_law_word"] g_law_name_right) (h_F__law_odd : Okf P w K mg base 1 "_law_odd" ["_law_cell"] g_law_odd) (h_F__law_piece : Okf P w K mg base 2 "_law_piece" ["_law_cell"] g_law_piece) (h_F__law_text : Okf P w K mg base 3 "_law_text" ["_law_script"] g_law_text) (h_F__law_told : Okf P w K mg base 5 "_law_told" ["_law_thing"] g_law_told) (h_F__law_told_words : Okf P w K mg base 1 "_law_told_words" [] g_law_told_words) {f : Addr} {fd : FuncData} (F : Fun K "law" "law" slaw f fd) : FnOk P w K mg base (L2N.CX P w) 6 f fd ["_law_script"] (spG K (runD 11 1 den_law)) := by
  have sc := sclaw
  exact fn_ok (N := Nlaw) F sc rfl (by decide) fun cdv A outer s H E hr => ⟨_, ((bd_cons (sd_set (i := 1) sc.nd rfl (by first | exact Or.inl rfl | exact Or.inr rfl) (dd_fn h_F__law_text (hr.mono (by decide)) (by rfl) (pol_of (L2N.takes_of rfl rfl rfl rfl)) (ad_cons (ED.d (ed_var 0)) ad_nil)))
    (bd_cons (sd_set (i := 2) sc.nd rfl (by first | exact Or.inl rfl | exact Or.inr rfl) (dd_fn h_F__law_due (hr.mono (by decide)) (by rfl) (pol_of (L2N.takes_of rfl rfl rfl rfl)) (ad_cons (ED.d (ed_var 1)) ad_nil)))
    (bd_cons (sd_setN (i := 3) sc.nd rfl (by first | exact Or.inl rfl | exact Or.inr rfl) (en_lst ad_nil))
    (bd_cons (sd_for (passes_of rfl) rfl (id_range1 (by rfl) T.n_range (ad_cons (ED.d ed_int) ad_nil)) (gd_name (i := 4) sc.nd rfl (by first | exact Or.inl rfl | exact Or.inr rfl)) (bd_cons (sd_set (i := 5) sc.nd rfl (by first | exact Or.inl rfl | exact Or.inr rfl) (dd_fn h_F__law_told (hr.mono (by decide)) (by rfl) (pol_of (L2N.takes_of rfl rfl rfl rfl)) (ad_cons (ED.d (ed_var 1)) ad_nil)))
    (bd_cons (sd_if (td_w (wd_or (td_val (DD.e (dd_isiS (x := "bool") (cl := "bool") (by rfl) T.n_isinstance (by decide +kernel) (ED.d (ed_var 5)) (by rfl) T.n_bool (by decide +kernel)))) (wd_or (td_cmp (cNe hr.units) (DD.e (dd_isiS (x := "list") (cl := "list") (by rfl) T.n_isinstance (by decide +kernel) (ED.d (ed_var 5)) (by rfl) T.n_list (by decide +kernel))) (DD.e (dd_isiS (x := "list") (cl := "list") (by rfl) T.n_isinstance (by decide +kernel) (ED.d (ed_var 2)) (by rfl) T.n_list (by decide +kernel))) (nomark _)) (wd_or1 (td_cmp (cNe hr.units) (ed_var 5) (ed_var 2) (nomark _)))))) (bd_one (sd_ret (ED.d ed_bl))) bd_nil)
    (bd_one (sd_if (td_val (DD.e (dd_isiS (x := "list") (cl := "list") (by rfl) T.n_isinstance (by decide +kernel) (ED.d (ed_var 5)) (by rfl) T.n_list (by decide +kernel)))) (bd_cons (sd_if (td_not (td_val (DD.e (dd_b1 (bAll rfl) (by rfl) T.n_all (by decide +kernel) (EN.e (en_lcA (own := [("_law_word", 9)]) (W' := W0) rfl sc.nd (ED.d (ed_var 5)) (blkOk_by (N := Nlaw) (sc := defScope slaw) (by decide +kernel)) (fun _ _ _ _ _ => (gd_name (i := 9) sc.nd rfl (by first | exact Or.inl rfl | exact Or.inr rfl))) (fun _ _ _ _ _ => tsd_nil) (fun _ _ _ _ _ => (dd_isiS (x := "str") (cl := "str") (by rfl) T.n_isinstance (by decide +kernel) (ED.d (ed_var 9)) (by rfl) T.n_str (by decide +kernel))))))))) (bd_one (sd_ret (ED.d ed_bl))) bd_nil)
    (bd_cons (sd_expr (DD.e (dd_append (ed_var 5) (ED.d ed_str))))
    (bd_one (sd_expr (DD.e (dd_append (ed_var 3) (ED.d (ed_var 5)))))))) bd_nil)))))
    (bd_cons (sd_set (i := 6) sc.nd rfl (by first | exact Or.inl rfl | exact Or.inr rfl) (dd_div (DD.e (dd_fn h_F__law_mixed (hr.mono (by decide)) (by rfl) (pol_of (L2N.takes_of rfl rfl rfl rfl)) (ad_cons (dd_fn h_F__law_cell_at (hr.mono (by decide)) (by rfl) (pol_of (L2N.takes_of rfl rfl rfl rfl)) (ad_cons (ED.d (ed_var 0)) (ad_cons (ED.d ed_int) ad_nil))) (ad_cons (ED.d ed_int) ad_nil)))) ed_int))
    (bd_cons (sd_set (i := 7) sc.nd rfl (by first | exact Or.inl rfl | exact Or.inr rfl) (dd_ix (EN.e (en_lst (ad_cons (ED.d ed_non) (ad_cons (ED.d ed_int) (ad_cons (ED.d ed_bl) (ad_cons (ED.d (EN.e (en_lst (ad_cons (ED.d ed_str) ad_nil)))) (ad_cons (dd_tup (ad_cons (ED.d ed_str) ad_nil)) (ad_cons dd_dct (ad_cons (ED.d ed_int) (ad_cons (ED.d (EN.e (en_lst (ad_cons (ED.d (ed_var 1)) ad_nil)))) ad_nil)))))))))) (DD.e (dd_mod (ed_var 6) ed_int)) (fun _ _ => rfl)))
    (bd_cons (sd_if (td_w (wd_or (td_cmp (cNe hr.units) (DD.e (dd_fn h_F__law_told (hr.mono (by decide)) (by rfl) (pol_of (L2N.takes_of rfl rfl rfl rfl)) (ad_cons (ED.d (ed_var 7)) ad_nil))) ed_int (nomark _)) (wd_or (td_not (td_val (DD.e (dd_isiS (x := "tuple") (cl := "tuple") (by rfl) T.n_isinstance (by decide +kernel) (ED.d (ed_globT (by rfl) T.kc_TOLD)) (by rfl) T.n_tuple (by decide +kernel))))) (wd_or1 (td_cmp (cNe hr.units) (DD.e (dd_b1 bSortS (by rfl) T.n_sorted (by decide +kernel) (ed_globT (by rfl) T.kc_TOLD))) (DD.e (dd_b1 bSortS (by rfl) T.n_sorted (by decide +kernel) (DD.e (dd_fn0 h_F__law_told_words (hr.mono (by decide)) (by rfl))))) (nomark _)))))) (bd_one (sd_ret (ED.d ed_bl))) bd_nil)
    (bd_cons (sd_setN (i := 8) sc.nd rfl (by first | exact Or.inl rfl | exact Or.inr rfl) (en_lst (ad_cons (dd_fn h_F__law_piece (hr.mono (by decide)) (by rfl) (pol_of (L2N.takes_of rfl rfl rfl rfl)) (ad_cons (dd_div (ed_var 6) ed_int) ad_nil)) (ad_cons (dd_fn h_F__law_odd (hr.mono (by decide)) (by rfl) (pol_of (L2N.takes_of rfl rfl rfl rfl)) (ad_cons (dd_div (ed_var 6) ed_int) ad_nil)) (ad_cons (dd_add (DD.e (dd_fn h_F__law_piece (hr.mono (by decide)) (by rfl) (pol_of (L2N.takes_of rfl rfl rfl rfl)) (ad_cons (dd_div (ed_var 6) ed_int) ad_nil))) (DD.e (dd_fn h_F__law_piece (hr.mono (by decide)) (by rfl) (pol_of (L2N.takes_of rfl rfl rfl rfl)) (ad_cons (dd_div (ed_var 6) ed_int) ad_nil)))) (ad_cons (ED.d ed_str) ad_nil))))))
    (bd_cons (sd_forA (passes_of rfl) rfl (dd_add (ed_var 8) (EN.e (en_lst (ad_cons (dd_add (DD.e (dd_fn h_F__law_piece (hr.mono (by decide)) (by rfl) (pol_of (L2N.takes_of rfl rfl rfl rfl)) (ad_cons (dd_add (DD.e (dd_mul (DD.e (dd_div (ed_var 6) ed_int)) ed_int)) ed_int) ad_nil))) ed_str) ad_nil)))) (gd_name (i := 9) sc.nd rfl (by first | exact Or.inl rfl | exact Or.inr rfl)) (bd_one (sd_if (td_not (td_val (DD.e (dd_fn h_F__law_name_right (hr.mono (by decide)) (by rfl) (pol_of (L2N.takes_of rfl rfl rfl rfl)) (ad_cons (ED.d (ed_var 9)) ad_nil))))) (bd_one (sd_ret (ED.d ed_bl))) bd_nil)))
    (bd_cons (sd_if (td_not (td_val (DD.e (dd_fn h_F__law_by_hand (hr.mono (by decide)) (by rfl) (pol_of (L2N.takes_of rfl rfl rfl rfl)) (ad_cons (dd_div (ed_var 6) ed_int) ad_nil))))) (bd_one (sd_ret (ED.d ed_bl))) bd_nil)
    (bd_one (sd_ret (dd_cmp (cEq hr.units) (EN.e (en_lcA (own := [("_law_one", 10)]) (W' := W0) rfl sc.nd (ED.d (ed_var 3)) (blkOk_by (N := Nlaw) (sc := defScope slaw) (by decide +kernel)) (fun _ _ _ _ _ => (gd_name (i := 10) sc.nd rfl (by first | exact Or.inl rfl | exact Or.inr rfl))) (fun _ _ _ _ _ => (tsd_one (td_cmp (cNe hr.units) (ed_var 10) (DD.e (dd_add (ed_var 2) (EN.e (en_lst (ad_cons (ED.d ed_str) ad_nil))))) (nomark _)))) (fun _ _ _ _ _ => (ED.d (ed_var 10))))) (EN.e (en_lst ad_nil)) (nomark _)))))))))))))) : BD _ _ _ _ den_law)⟩

theorem words_dct {n : Nat} {kvs : List (Key × D)} {S : List Cell} (h : S[n]? = some (.dct kvs)) : g_words [.loc n] S = .ex (bs 0) S := by
  simp only [g_words, den_words, runD, dD, dNil, dCons, dAnd, dOr, dNotT, dAndV, dOrV, dNotV, dIf, dTru, dCmpT, dSeq, dRet, dSet, dSetN, dIfS, dNx, dDrop, dOp, dNeg, dTup, dLst, dC, dK, dVar, okD, okN, frz, dCall, ofF, dAug, dPar, dApp, dChain, dListOf, dSlL, dRev,
  M.bind, M.pure, M.no, M.ne, dName, dUnit, dConsG, dTupG, gOr, gI, gS, gAdd, gSubI, gMul, gDiv, gMod, gPow, gIx, gLen, gAbs, gInt1, gSum, gAll, gAny, gMaxL, gMinL, gTupOf, g2I, gDm, gPart, gTru, gBool, gBoolO, gEq_pair, gEq_ints, gEq_sl1, gEq_sl2, opL, gEq_int, gEq_str, gEq_bl, gEq_non, gNone, gIn, gSign, gCat, gRep, gIsi,
  iLt, iLe, iGt, iGe, My.isNon, truD, tagD, seqD, lstD, rdlD, mutD, putL, tupD, vsD, rng1X, rng2X, enuX, zipX, seqX,
  Option.bind, Option.map, Option.bind_some, Option.map_some,
  List.map_cons, List.map_nil, List.length_cons, List.length_nil, List.nil_append, List.cons_append, List.replicate, List.getElem?_cons_zero, List.getElem?_cons_succ, List.set_cons_zero, List.set_cons_succ, List.append_nil,
  if_true, if_false, ite_true, ite_false, Nat.reduceAdd, Int.reduceToNat, Int.reducePow, Nat.reducePow, Int.reduceMul, Int.reduceAdd, Int.reduceSub, Int.reduceLT, Int.reduceLE, Nat.reduceMul, Int.cast_ofNat_Int, Nat.reduceSub, Nat.reduceLT, Nat.reduceLeDiff, ne_eq, reduceCtorEq, not_false_eq_true, not_true_eq_false, Int.reduceEq, Int.reduceNeg, Bool.false_eq_true, Bool.not_true, Bool.not_false, decide_true, decide_false, true_and, and_true, false_and, and_false, or_true, true_or, or_false, false_or, id_eq, Bool.true_eq_false, decide_eq_true_eq, Bool.not_eq_true', decide_eq_false_iff_not, Bool.not_not, blsD, List.all_cons, List.all_nil, List.any_cons, List.any_nil, Bool.and_self, Bool.and_true, Bool.or_false, dFor, dLc, itL, wipeD, backD, isi_NoneType_bool, isi_NoneType_int, isi_NoneType_str, isi_NoneType_tuple, isi_NoneType_list, isi_NoneType_dict, isi_bool_bool, isi_bool_int, isi_bool_str, isi_bool_tuple, isi_bool_list, isi_bool_dict, isi_int_bool, isi_int_int, isi_int_str, isi_int_tuple, isi_int_list, isi_int_dict, isi_str_bool, isi_str_int, isi_str_str, isi_str_tuple, isi_str_list, isi_str_dict, isi_tuple_bool, isi_tuple_int, isi_tuple_str, isi_tuple_tuple, isi_tuple_list, isi_tuple_dict, isi_list_bool, isi_list_int, isi_list_str, isi_list_tuple, isi_list_list, isi_list_dict, isi_dict_bool, isi_dict_int, isi_dict_str, isi_dict_tuple, isi_dict_list, isi_dict_dict, dSlD, dCatN, dLcA, dLcX, dForA, dForX, gStr1, gIsiS, tagS, dJoinS, dIsStr, strsO, gStrA, dRaiseF, dPut, bs, h]
theorem told_odd {x : D} (h : x = .v .non ∨ (∃ i, x = .v (.int i)) ∨ (∃ b, x = .v (.bl b)) ∨ (∃ l, x = .lst l) ∨ (∃ l, x = .tup l)) (S : List Cell) : g_law_told [x] S = .ok (.v (.int 0)) S := told_ex (words_odd h S)
theorem round_lst {ns : List Int} {t : Str} {ws : List Str} (hl : ws.length ≤ 10000) (told : ∀ S, g_law_told [sD t] S = .ok (.loc S.length) (S ++ [.lst (Ss ws)])) (h : List D) (hh : h.length ≤ 10) (x4 x5 : Slot) (S : List Cell) :
    flaw2b ⟨[.d (scr ns), .d (sD t), .d (.lst (Ss ws)), .own (.lst (h)), x4, x5, .no, .no, .no, .no, .no], S⟩ = .ok .nx ⟨[.d (scr ns), .d (sD t), .d (.lst (Ss ws)), .own (.lst (h ++ [.loc S.length])), x4, .d (.loc S.length), .no, .no, .no, .no, .no], S ++ [.lst (Ss ws ++ [sD (Str.ofString "more")])]⟩ := by
  have e0 := told S
  have g1 := st_get S (.lst (Ss ws))
  have g2 := st_get S (.lst (Ss ws ++ [sD (Str.ofString "more")]))
  have s1 := st_set S (.lst (Ss ws)) (.lst (Ss ws ++ [sD (Str.ofString "more")]))
  have pa : PydA 9 (Ss ws) := pydA_map (f := fun p : Str => D.v (V.str p)) (fun _ => pyd_str) ws
  have eq1 := fun r => gEq_refl (neg := true) (a := .d (.loc S.length)) (b := .d (.lst (Ss ws))) (l := Ss ws) (c := ⟨r, S ++ [.lst (Ss ws)]⟩) pa (by
    show (match (S ++ [.lst (Ss ws)])[S.length]? with | some (.lst ds) => (pyDs ds).map PyData.list | _ => none) = _
    rw [g1]) rfl
  have L := fun r0 => itLG_map (n := S.length) (es := Ss ws) (dg := dName 9) (dt := M.pure true) (de := claw2e) (vs := [9]) (r0 := r0) (w := [.d (scr ns), .d (sD t), .d (.lst (Ss ws)), .own (.lst (h)), x4, .d (.loc S.length), .no, .no, .no, .no, .no]) (S := S ++ [.lst (Ss ws)]) (p := fun _ => true) (f := fun _ => .v (.bl true)) g1 (Ss ws) [] ⟨[.d (scr ns), .d (sD t), .d (.lst (Ss ws)), .own (.lst (h)), x4, .d (.loc S.length), .no, .no, .no, .no, .no], S ++ [.lst (Ss ws)]⟩ rfl rfl (by simp [Ss]; omega) (fun d hd => by
    unfold Ss at hd
    obtain ⟨w, _, rfl⟩ := List.mem_map.mp hd
    refine ⟨⟨[.d (scr ns), .d (sD t), .d (.lst (Ss ws)), .own (.lst (h)), x4, .d (.loc S.length), .no, .no, .no, .d (sD w), .no], S ++ [.lst (Ss ws)]⟩, rfl, ⟨[.d (scr ns), .d (sD t), .d (.lst (Ss ws)), .own (.lst (h)), x4, .d (.loc S.length), .no, .no, .no, .d (sD w), .no], S ++ [.lst (Ss ws)]⟩, rfl, rfl, rfl, fun _ => ⟨⟨[.d (scr ns), .d (sD t), .d (.lst (Ss ws)), .own (.lst (h)), x4, .d (.loc S.length), .no, .no, .no, .d (sD w), .no], S ++ [.lst (Ss ws)]⟩, ?_, rfl, rfl⟩⟩
    simp only [claw2e, runD, dD, dNil, dCons, dAnd, dOr, dNotT, dAndV, dOrV, dNotV, dIf, dTru, dCmpT, dSeq, dRet, dSet, dSetN, dIfS, dNx, dDrop, dOp, dNeg, dTup, dLst, dC, dK, dVar, okD, okN, frz, dCall, ofF, dAug, dPar, dApp, dChain, dListOf, dSlL, dRev,
  M.bind, M.pure, M.no, M.ne, dName, dUnit, dConsG, dTupG, gOr, gI, gS, gAdd, gSubI, gMul, gDiv, gMod, gPow, gIx, gLen, gAbs, gInt1, gSum, gAll, gAny, gMaxL, gMinL, gTupOf, g2I, gDm, gPart, gTru, gBool, gBoolO, gEq_pair, gEq_ints, gEq_sl1, gEq_sl2, opL, gEq_int, gEq_str, gEq_bl, gEq_non, gNone, gIn, gSign, gCat, gRep, gIsi,
  iLt, iLe, iGt, iGe, My.isNon, truD, tagD, seqD, lstD, rdlD, mutD, putL, tupD, vsD, rng1X, rng2X, enuX, zipX, seqX,
  Option.bind, Option.map, Option.bind_some, Option.map_some,
  List.map_cons, List.map_nil, List.length_cons, List.length_nil, List.nil_append, List.cons_append, List.replicate, List.getElem?_cons_zero, List.getElem?_cons_succ, List.set_cons_zero, List.set_cons_succ, List.append_nil,
  if_true, if_false, ite_true, ite_false, Nat.reduceAdd, Int.reduceToNat, Int.reducePow, Nat.reducePow, Int.reduceMul, Int.reduceAdd, Int.reduceSub, Int.reduceLT, Int.reduceLE, Nat.reduceMul, Int.cast_ofNat_Int, Nat.reduceSub, Nat.reduceLT, Nat.reduceLeDiff, ne_eq, reduceCtorEq, not_false_eq_true, not_true_eq_false, Int.reduceEq, Int.reduceNeg, Bool.false_eq_true, Bool.not_true, Bool.not_false, decide_true, decide_false, true_and, and_true, false_and, and_false, or_true, true_or, or_false, false_or, id_eq, Bool.true_eq_false, decide_eq_true_eq, Bool.not_eq_true', decide_eq_false_iff_not, Bool.not_not, blsD, List.all_cons, List.all_nil, List.any_cons, List.any_nil, Bool.and_self, Bool.and_true, Bool.or_false, dFor, dLc, itL, wipeD, backD, isi_NoneType_bool, isi_NoneType_int, isi_NoneType_str, isi_NoneType_tuple, isi_NoneType_list, isi_NoneType_dict, isi_bool_bool, isi_bool_int, isi_bool_str, isi_bool_tuple, isi_bool_list, isi_bool_dict, isi_int_bool, isi_int_int, isi_int_str, isi_int_tuple, isi_int_list, isi_int_dict, isi_str_bool, isi_str_int, isi_str_str, isi_str_tuple, isi_str_list, isi_str_dict, isi_tuple_bool, isi_tuple_int, isi_tuple_str, isi_tuple_tuple, isi_tuple_list, isi_tuple_dict, isi_list_bool, isi_list_int, isi_list_str, isi_list_tuple, isi_list_list, isi_list_dict, isi_dict_bool, isi_dict_int, isi_dict_str, isi_dict_tuple, isi_dict_list, isi_dict_dict, dSlD, dCatN, dLcA, dLcX, dForA, dForX, gStr1, gIsiS, tagS, dJoinS, dIsStr, strsO, gStrA, dRaiseF, dPut])
  have ft : ((Ss ws).filter fun _ => true) = Ss ws := List.filter_eq_self.mpr fun _ _ => rfl
  rw [List.nil_append, ft] at L
  have ba : ∀ Y : List D, blsD (Y.map fun _ => D.v (V.bl true)) = some (Y.map fun _ => true) := fun Y => by
    induction Y with
    | nil => rfl
    | cons y Y ih =>
      show (blsD (Y.map fun _ => D.v (V.bl true))).map (true :: ·) = _
      rw [ih]
      rfl
  have bb : ∀ Y : List D, ((Y.map fun _ => true).all id) = true := fun Y => by simp
  have z : (Ss ws).length < 1000000 := by simp [Ss]; omega
  have zh : h.length < 1000000 := by omega
  generalize Ss ws = X at *
  simp only [flaw2b, runD, dD, dNil, dCons, dAnd, dOr, dNotT, dAndV, dOrV, dNotV, dIf, dTru, dCmpT, dSeq, dRet, dSet, dSetN, dIfS, dNx, dDrop, dOp, dNeg, dTup, dLst, dC, dK, dVar, okD, okN, frz, dCall, ofF, dAug, dPar, dApp, dChain, dListOf, dSlL, dRev,
  M.bind, M.pure, M.no, M.ne, dName, dUnit, dConsG, dTupG, gOr, gI, gS, gAdd, gSubI, gMul, gDiv, gMod, gPow, gIx, gLen, gAbs, gInt1, gSum, gAll, gAny, gMaxL, gMinL, gTupOf, g2I, gDm, gPart, gTru, gBool, gBoolO, gEq_pair, gEq_ints, gEq_sl1, gEq_sl2, opL, gEq_int, gEq_str, gEq_bl, gEq_non, gNone, gIn, gSign, gCat, gRep, gIsi,
  iLt, iLe, iGt, iGe, My.isNon, truD, tagD, seqD, lstD, rdlD, mutD, putL, tupD, vsD, rng1X, rng2X, enuX, zipX, seqX,
  Option.bind, Option.map, Option.bind_some, Option.map_some,
  List.map_cons, List.map_nil, List.length_cons, List.length_nil, List.nil_append, List.cons_append, List.replicate, List.getElem?_cons_zero, List.getElem?_cons_succ, List.set_cons_zero, List.set_cons_succ, List.append_nil,
  if_true, if_false, ite_true, ite_false, Nat.reduceAdd, Int.reduceToNat, Int.reducePow, Nat.reducePow, Int.reduceMul, Int.reduceAdd, Int.reduceSub, Int.reduceLT, Int.reduceLE, Nat.reduceMul, Int.cast_ofNat_Int, Nat.reduceSub, Nat.reduceLT, Nat.reduceLeDiff, ne_eq, reduceCtorEq, not_false_eq_true, not_true_eq_false, Int.reduceEq, Int.reduceNeg, Bool.false_eq_true, Bool.not_true, Bool.not_false, decide_true, decide_false, true_and, and_true, false_and, and_false, or_true, true_or, or_false, false_or, id_eq, Bool.true_eq_false, decide_eq_true_eq, Bool.not_eq_true', decide_eq_false_iff_not, Bool.not_not, blsD, List.all_cons, List.all_nil, List.any_cons, List.any_nil, Bool.and_self, Bool.and_true, Bool.or_false, dFor, dLc, wipeD, backD, isi_NoneType_bool, isi_NoneType_int, isi_NoneType_str, isi_NoneType_tuple, isi_NoneType_list, isi_NoneType_dict, isi_bool_bool, isi_bool_int, isi_bool_str, isi_bool_tuple, isi_bool_list, isi_bool_dict, isi_int_bool, isi_int_int, isi_int_str, isi_int_tuple, isi_int_list, isi_int_dict, isi_str_bool, isi_str_int, isi_str_str, isi_str_tuple, isi_str_list, isi_str_dict, isi_tuple_bool, isi_tuple_int, isi_tuple_str, isi_tuple_tuple, isi_tuple_list, isi_tuple_dict, isi_list_bool, isi_list_int, isi_list_str, isi_list_tuple, isi_list_list, isi_list_dict, isi_dict_bool, isi_dict_int, isi_dict_str, isi_dict_tuple, isi_dict_list, isi_dict_dict, dSlD, dCatN, dLcA, dLcX, dForA, dForX, gStr1, gIsiS, tagS, dJoinS, dIsStr, strsO, gStrA, dRaiseF, dPut, wipeD, backD, e0, g1, g2, s1, eq1, L, ba, bb, z, zh]
theorem round_ex {ns : List Int} {t : Str} {q : Int} (told : ∀ S, ∃ S', g_law_told [sD t] S = .ok (.v (.int q)) S') (x4 x5 : Slot) (S : List Cell) :
    ∃ S', flaw2b ⟨[.d (scr ns), .d (sD t), .d (.v (.int q)), .own (.lst ([])), x4, x5, .no, .no, .no, .no, .no], S⟩ = .ok .nx ⟨[.d (scr ns), .d (sD t), .d (.v (.int q)), .own (.lst ([])), x4, .d (.v (.int q)), .no, .no, .no, .no, .no], S'⟩ := by
  obtain ⟨S', e0⟩ := told S
  refine ⟨S', ?_⟩
  simp only [flaw2b, runD, dD, dNil, dCons, dAnd, dOr, dNotT, dAndV, dOrV, dNotV, dIf, dTru, dCmpT, dSeq, dRet, dSet, dSetN, dIfS, dNx, dDrop, dOp, dNeg, dTup, dLst, dC, dK, dVar, okD, okN, frz, dCall, ofF, dAug, dPar, dApp, dChain, dListOf, dSlL, dRev,
  M.bind, M.pure, M.no, M.ne, dName, dUnit, dConsG, dTupG, gOr, gI, gS, gAdd, gSubI, gMul, gDiv, gMod, gPow, gIx, gLen, gAbs, gInt1, gSum, gAll, gAny, gMaxL, gMinL, gTupOf, g2I, gDm, gPart, gTru, gBool, gBoolO, gEq_pair, gEq_ints, gEq_sl1, gEq_sl2, opL, gEq_int, gEq_str, gEq_bl, gEq_non, gNone, gIn, gSign, gCat, gRep, gIsi,
  iLt, iLe, iGt, iGe, My.isNon, truD, tagD, seqD, lstD, rdlD, mutD, putL, tupD, vsD, rng1X, rng2X, enuX, zipX, seqX,
  Option.bind, Option.map, Option.bind_some, Option.map_some,
  List.map_cons, List.map_nil, List.length_cons, List.length_nil, List.nil_append, List.cons_append, List.replicate, List.getElem?_cons_zero, List.getElem?_cons_succ, List.set_cons_zero, List.set_cons_succ, List.append_nil,
  if_true, if_false, ite_true, ite_false, Nat.reduceAdd, Int.reduceToNat, Int.reducePow, Nat.reducePow, Int.reduceMul, Int.reduceAdd, Int.reduceSub, Int.reduceLT, Int.reduceLE, Nat.reduceMul, Int.cast_ofNat_Int, Nat.reduceSub, Nat.reduceLT, Nat.reduceLeDiff, ne_eq, reduceCtorEq, not_false_eq_true, not_true_eq_false, Int.reduceEq, Int.reduceNeg, Bool.false_eq_true, Bool.not_true, Bool.not_false, decide_true, decide_false, true_and, and_true, false_and, and_false, or_true, true_or, or_false, false_or, id_eq, Bool.true_eq_false, decide_eq_true_eq, Bool.not_eq_true', decide_eq_false_iff_not, Bool.not_not, blsD, List.all_cons, List.all_nil, List.any_cons, List.any_nil, Bool.and_self, Bool.and_true, Bool.or_false, dFor, dLc, itL, wipeD, backD, isi_NoneType_bool, isi_NoneType_int, isi_NoneType_str, isi_NoneType_tuple, isi_NoneType_list, isi_NoneType_dict, isi_bool_bool, isi_bool_int, isi_bool_str, isi_bool_tuple, isi_bool_list, isi_bool_dict, isi_int_bool, isi_int_int, isi_int_str, isi_int_tuple, isi_int_list, isi_int_dict, isi_str_bool, isi_str_int, isi_str_str, isi_str_tuple, isi_str_list, isi_str_dict, isi_tuple_bool, isi_tuple_int, isi_tuple_str, isi_tuple_tuple, isi_tuple_list, isi_tuple_dict, isi_list_bool, isi_list_int, isi_list_str, isi_list_tuple, isi_list_list, isi_list_dict, isi_dict_bool, isi_dict_int, isi_dict_str, isi_dict_tuple, isi_dict_list, isi_dict_dict, dSlD, dCatN, dLcA, dLcX, dForA, dForX, gStr1, gIsiS, tagS, dJoinS, dIsStr, strsO, gStrA, dRaiseF, dPut, e0]
theorem itF_none {dg : D → M Unit} {db : M Fl} {c : Stt} : itF dg db [] c = .ok .nx c := rfl
theorem two_rng : rngD 0 2 = [.v (.int 0), .v (.int 1)] := rfl
theorem rounds {ns : List Int} {t : Str} {l : List (Int × Str)} (hr : Rn 0 t.cps.toList l) (hz : t.length ≤ 1000000) :
    ∃ (due : D) (h : List D) (x4 x5 : Slot) (S : List Cell), g_law_due [sD t] [] = .ok due [] ∧
      itF (dName 4) flaw2b (rngD 0 2) ⟨[.d (scr ns), .d (sD t), .d (due), .own (.lst ([])), .no, .no, .no, .no, .no, .no, .no], []⟩ = .ok .nx ⟨[.d (scr ns), .d (sD t), .d (due), .own (.lst (h)), x4, x5, .no, .no, .no, .no, .no], S⟩ ∧
      ((h = [] ∧ ∃ q, due = .v (.int q)) ∨ ∃ X, PydA 9 X ∧ due = .lst X ∧ X.length < 100000 ∧ ∃ n m, h = [.loc n, .loc m] ∧ S[n]? = some (.lst (X ++ [sD (Str.ofString "more")])) ∧ S[m]? = some (.lst (X ++ [sD (Str.ofString "more")]))) := by
  have bad : ∀ q, (∀ S, ∃ S', g_words [sD t] S = .ex (bs q) S') → g_law_due [sD t] [] = .ok (.v (.int q)) [] → ∃ (due : D) (h : List D) (x4 x5 : Slot) (S : List Cell), g_law_due [sD t] [] = .ok due [] ∧
      itF (dName 4) flaw2b (rngD 0 2) ⟨[.d (scr ns), .d (sD t), .d (due), .own (.lst ([])), .no, .no, .no, .no, .no, .no, .no], []⟩ = .ok .nx ⟨[.d (scr ns), .d (sD t), .d (due), .own (.lst (h)), x4, x5, .no, .no, .no, .no, .no], S⟩ ∧
      ((h = [] ∧ ∃ q, due = .v (.int q)) ∨ ∃ X, PydA 9 X ∧ due = .lst X ∧ X.length < 100000 ∧ ∃ n m, h = [.loc n, .loc m] ∧ S[n]? = some (.lst (X ++ [sD (Str.ofString "more")])) ∧ S[m]? = some (.lst (X ++ [sD (Str.ofString "more")]))) := by
    intro q hw hd
    have told : ∀ S, ∃ S', g_law_told [sD t] S = .ok (.v (.int q)) S' := fun S => by
      obtain ⟨S', e⟩ := hw S
      exact ⟨S', told_ex e⟩
    obtain ⟨S1, e1⟩ := round_ex (ns := ns) told (.d (.v (.int 0))) .no []
    obtain ⟨S2, e2⟩ := round_ex (ns := ns) told (.d (.v (.int 1))) (.d (.v (.int q))) S1
    refine ⟨.v (.int q), [], .d (.v (.int 1)), .d (.v (.int q)), S2, hd, ?_, .inl ⟨rfl, q, rfl⟩⟩
    have r1 : dName 4 (.v (.int 0)) ⟨[.d (scr ns), .d (sD t), .d (.v (.int q)), .own (.lst ([])), .no, .no, .no, .no, .no, .no, .no], []⟩ = .ok () ⟨[.d (scr ns), .d (sD t), .d (.v (.int q)), .own (.lst ([])), .d (.v (.int 0)), .no, .no, .no, .no, .no, .no], []⟩ := rfl
    have r2 : dName 4 (.v (.int 1)) ⟨[.d (scr ns), .d (sD t), .d (.v (.int q)), .own (.lst ([])), .d (.v (.int 0)), .d (.v (.int q)), .no, .no, .no, .no, .no], S1⟩ = .ok () ⟨[.d (scr ns), .d (sD t), .d (.v (.int q)), .own (.lst ([])), .d (.v (.int 1)), .d (.v (.int q)), .no, .no, .no, .no, .no], S1⟩ := rfl
    rw [two_rng, itF_next r1 e1, itF_next r2 e2]
    exact itF_none
  by_cases h6 : t.length ≤ 6000
  · have wo := fun S => words_ok hr h6 S
    have du := due_ok hr h6 []
    unfold dueD at du
    cases hb : badD l with
    | some q =>
      rw [hb] at wo du
      exact bad q wo du
    | none =>
      rw [hb] at wo du
      have dw : (l.map fun p => sD p.2) = Ss (l.map (·.2)) := by
        unfold Ss
        rw [List.map_map]
        rfl
      dsimp only at wo du
      rw [dw] at du
      have hl := rn_len hr
      rw [← t_len] at hl
      have hw : (l.map (·.2)).length ≤ 10000 := by rw [List.length_map]; omega
      generalize l.map (·.2) = ws at wo du hw
      have told : ∀ S, g_law_told [sD t] S = .ok (.loc S.length) (S ++ [.lst (Ss ws)]) := fun S => told_go (wo S)
      have e1 : flaw2b ⟨[.d (scr ns), .d (sD t), .d (.lst (Ss ws)), .own (.lst ([])), .d (.v (.int 0)), .no, .no, .no, .no, .no, .no], []⟩ = .ok .nx ⟨[.d (scr ns), .d (sD t), .d (.lst (Ss ws)), .own (.lst ([.loc 0])), .d (.v (.int 0)), .d (.loc 0), .no, .no, .no, .no, .no], [.lst (Ss ws ++ [sD (Str.ofString "more")])]⟩ := round_lst (ns := ns) hw told [] (by decide) (.d (.v (.int 0))) .no []
      have e2 : flaw2b ⟨[.d (scr ns), .d (sD t), .d (.lst (Ss ws)), .own (.lst ([.loc 0])), .d (.v (.int 1)), .d (.loc 0), .no, .no, .no, .no, .no], [.lst (Ss ws ++ [sD (Str.ofString "more")])]⟩ = .ok .nx ⟨[.d (scr ns), .d (sD t), .d (.lst (Ss ws)), .own (.lst ([.loc 0, .loc 1])), .d (.v (.int 1)), .d (.loc 1), .no, .no, .no, .no, .no], [.lst (Ss ws ++ [sD (Str.ofString "more")]), .lst (Ss ws ++ [sD (Str.ofString "more")])]⟩ := round_lst (ns := ns) hw told [.loc 0] (by decide) (.d (.v (.int 1))) (.d (.loc 0)) [.lst (Ss ws ++ [sD (Str.ofString "more")])]
      refine ⟨.lst (Ss ws), [.loc 0, .loc 1], .d (.v (.int 1)), .d (.loc 1), [.lst (Ss ws ++ [sD (Str.ofString "more")]), .lst (Ss ws ++ [sD (Str.ofString "more")])], du, ?_, .inr ⟨Ss ws, pydA_map (f := fun p : Str => D.v (V.str p)) (fun _ => pyd_str) ws, rfl, by simp [Ss]; omega, 0, 1, rfl, rfl, rfl⟩⟩
      have r1 : dName 4 (.v (.int 0)) ⟨[.d (scr ns), .d (sD t), .d (.lst (Ss ws)), .own (.lst ([])), .no, .no, .no, .no, .no, .no, .no], []⟩ = .ok () ⟨[.d (scr ns), .d (sD t), .d (.lst (Ss ws)), .own (.lst ([])), .d (.v (.int 0)), .no, .no, .no, .no, .no, .no], []⟩ := rfl
      have r2 : dName 4 (.v (.int 1)) ⟨[.d (scr ns), .d (sD t), .d (.lst (Ss ws)), .own (.lst ([.loc 0])), .d (.v (.int 0)), .d (.loc 0), .no, .no, .no, .no, .no], [.lst (Ss ws ++ [sD (Str.ofString "more")])]⟩ = .ok () ⟨[.d (scr ns), .d (sD t), .d (.lst (Ss ws)), .own (.lst ([.loc 0])), .d (.v (.int 1)), .d (.loc 0), .no, .no, .no, .no, .no], [.lst (Ss ws ++ [sD (Str.ofString "more")])]⟩ := rfl
      rw [two_rng, itF_next r1 e1, itF_next r2 e2]
      exact itF_none
  · exact bad 0 (fun S => ⟨S, words_long h6 hz S⟩) (due_long h6 hz [])

theorem gEq_self {neg : Bool} {l : List D} (h : PydA 9 l) (c : Stt) : gEq neg (.d (.lst l)) (.d (.lst l)) c = .ok (.v (.bl (!neg))) c := gEq_refl h rfl rfl
theorem law_true (ns : List Int) (h : ns.length ≤ 63) : ∃ S, runD 11 1 den_law [scr ns] [] = .ok (.v (.bl true)) S := by
  obtain ⟨t, ht, e1⟩ := text_ok ns h []
  obtain ⟨l, hr⟩ := rn_ex t.cps.toList
  obtain ⟨due, hs, x4, x5, S, e2, e3, cs⟩ := rounds (ns := ns) hr (by omega)
  have g0 := gc ns 0 S (by decide)
  generalize ns.getD (0 : Int).toNat 0 = f at g0
  have g1 := gx f 42 S (by decide)
  generalize hc : (mixed f 42).fdiv 7 = c
  have d7 : divOk 7 := divOk_s (by decide) (by decide)
  have d8 : divOk 8 := divOk_s (by decide) (by decide)
  have d9 : divOk 9 := divOk_s (by decide) (by decide)
  have d10 : divOk 10 := divOk_s (by decide) (by decide)
  have d11 : divOk 11 := divOk_s (by decide) (by decide)
  have d12 : divOk 12 := divOk_s (by decide) (by decide)
  have d13 : divOk 13 := divOk_s (by decide) (by decide)
  obtain ⟨x, e4, e5⟩ := pickP (P := fun x => g_law_told [x] (S ++ [.dct []]) = .ok (.v (.int 0)) (S ++ [.dct []])) (c := c) (m := 8) (xs := [.v .non, .v (.int 5), .v (.bl true), .lst [sD (Str.ofString "a")], .tup [sD (Str.ofString "a")], .loc S.length, .v (.int 0), .lst [sD t]]) rfl (by decide) (fun x hx => by
    simp only [List.mem_cons, List.not_mem_nil, or_false] at hx
    rcases hx with rfl | rfl | rfl | rfl | rfl | rfl | rfl | rfl
    · exact told_odd (.inl rfl) _
    · exact told_odd (.inr (.inl ⟨_, rfl⟩)) _
    · exact told_odd (.inr (.inr (.inl ⟨_, rfl⟩))) _
    · exact told_odd (.inr (.inr (.inr (.inl ⟨_, rfl⟩)))) _
    · exact told_odd (.inr (.inr (.inr (.inr ⟨_, rfl⟩)))) _
    · exact told_ex (words_dct (st_get S (.dct [])))
    · exact told_odd (.inr (.inl ⟨_, rfl⟩)) _
    · exact told_odd (.inr (.inr (.inr (.inl ⟨_, rfl⟩)))) _)
  have kT : k_TOLD = .tup (Ss TOLDs) := rfl
  have sT : ∀ c, gSortS (.d (.tup (Ss TOLDs))) c = .ok (.lst (Ss (sortS TOLDs))) c := fun _ => rfl
  have sW : ∀ c, gSortS (.d (.lst (Ss TOLDs))) c = .ok (.lst (Ss (sortS TOLDs))) c := fun _ => rfl
  have tw := tw_ok (S ++ [.dct []])
  have sq := gEq_self (neg := true) (pydA_map (n := 9) (f := fun p : Str => D.v (V.str p)) (fun _ => pyd_str) (sortS TOLDs))
  have sq : ∀ c, gEq true (.d (.lst (Ss (sortS TOLDs)))) (.d (.lst (Ss (sortS TOLDs)))) c = .ok (.v (.bl (!true))) c := sq
  obtain ⟨w1, k1, p1⟩ := piece_ok (c.fdiv 8) (S ++ [.dct []])
  obtain ⟨w2, k2, p2⟩ := odd_ok (c.fdiv 9) (S ++ [.dct []])
  obtain ⟨w3, k3, p3⟩ := piece_ok (c.fdiv 10) (S ++ [.dct []])
  obtain ⟨w4, k4, p4⟩ := piece_ok (c.fdiv 11) (S ++ [.dct []])
  obtain ⟨w5, k5, p5⟩ := piece_ok (c.fdiv 12 * 5 + 1) (S ++ [.dct []])
  obtain ⟨w6, k6, p6⟩ := piece_ok ((c.fdiv 13).fdiv 6001 * 5 + 1) (S ++ [.dct []])
  have m1 : mulOk (c.fdiv 12) 5 := mulOk_r (by decide)
  have l1 := str_app_len w3 w4
  have l2 := str_app_len w5 (Str.ofString "\n")
  have l0 : (Str.ofString "").length = 0 := by decide +kernel
  have l3 : (Str.ofString "\n").length = 1 := by decide +kernel
  have z1 : (w3.length + w4.length ≤ 1000000) = True := eq_true (by omega)
  have z2 : (w5.length + (Str.ofString "\n").length ≤ 1000000) = True := eq_true (by omega)
  have n1 := nright_ok (w := w1) (by omega) (S ++ [.dct []])
  have n2 := nright_ok (w := w2) (by omega) (S ++ [.dct []])
  have n3 := nright_ok (w := w3 ++ w4) (by omega) (S ++ [.dct []])
  have n4 := nright_ok (w := Str.ofString "") (by omega) (S ++ [.dct []])
  have n5 := nright_ok (w := w5 ++ Str.ofString "\n") (by omega) (S ++ [.dct []])
  have bh := hand_ok p6
  have nn := fun c => gEq_nil (neg := false) (c := c) (l := []) pydA_nil
  refine ⟨S ++ [.dct []], ?_⟩
  rcases cs with ⟨rfl, q, rfl⟩ | ⟨X, hX, rfl, hz, n, m, rfl, hn, hm⟩
  · simp only [den_law, runD, dD, dNil, dCons, dAnd, dOr, dNotT, dAndV, dOrV, dNotV, dIf, dTru, dCmpT, dSeq, dRet, dSet, dSetN, dIfS, dNx, dDrop, dOp, dNeg, dTup, dLst, dC, dK, dVar, okD, okN, frz, dCall, ofF, dAug, dPar, dApp, dChain, dListOf, dSlL, dRev,
  M.bind, M.pure, M.no, M.ne, dName, dUnit, dConsG, dTupG, gOr, gI, gS, gAdd, gSubI, gMul, gDiv, gMod, gPow, gIx, gLen, gAbs, gInt1, gSum, gAll, gAny, gMaxL, gMinL, gTupOf, g2I, gDm, gPart, gTru, gBool, gBoolO, gEq_pair, gEq_ints, gEq_sl1, gEq_sl2, opL, gEq_int, gEq_str, gEq_bl, gEq_non, gNone, gIn, gSign, gCat, gRep, gIsi,
  iLt, iLe, iGt, iGe, My.isNon, truD, tagD, seqD, lstD, rdlD, mutD, putL, tupD, vsD, rng1X, rng2X, enuX, zipX, seqX,
  Option.bind, Option.map, Option.bind_some, Option.map_some,
  List.map_cons, List.map_nil, List.length_cons, List.length_nil, List.nil_append, List.cons_append, List.replicate, List.getElem?_cons_zero, List.getElem?_cons_succ, List.set_cons_zero, List.set_cons_succ, List.append_nil,
  if_true, if_false, ite_true, ite_false, Nat.reduceAdd, Int.reduceToNat, Int.reducePow, Nat.reducePow, Int.reduceMul, Int.reduceAdd, Int.reduceSub, Int.reduceLT, Int.reduceLE, Nat.reduceMul, Int.cast_ofNat_Int, Nat.reduceSub, Nat.reduceLT, Nat.reduceLeDiff, ne_eq, reduceCtorEq, not_false_eq_true, not_true_eq_false, Int.reduceEq, Int.reduceNeg, Bool.false_eq_true, Bool.not_true, Bool.not_false, decide_true, decide_false, true_and, and_true, false_and, and_false, or_true, true_or, or_false, false_or, id_eq, Bool.true_eq_false, decide_eq_true_eq, Bool.not_eq_true', decide_eq_false_iff_not, Bool.not_not, blsD, List.all_cons, List.all_nil, List.any_cons, List.any_nil, Bool.and_self, Bool.and_true, Bool.or_false, dFor, dLc, itL, wipeD, backD, isi_NoneType_bool, isi_NoneType_int, isi_NoneType_str, isi_NoneType_tuple, isi_NoneType_list, isi_NoneType_dict, isi_bool_bool, isi_bool_int, isi_bool_str, isi_bool_tuple, isi_bool_list, isi_bool_dict, isi_int_bool, isi_int_int, isi_int_str, isi_int_tuple, isi_int_list, isi_int_dict, isi_str_bool, isi_str_int, isi_str_str, isi_str_tuple, isi_str_list, isi_str_dict, isi_tuple_bool, isi_tuple_int, isi_tuple_str, isi_tuple_tuple, isi_tuple_list, isi_tuple_dict, isi_list_bool, isi_list_int, isi_list_str, isi_list_tuple, isi_list_list, isi_list_dict, isi_dict_bool, isi_dict_int, isi_dict_str, isi_dict_tuple, isi_dict_list, isi_dict_dict, dSlD, dCatN, dLcA, dLcX, dForA, dForX, gStr1, gIsiS, tagS, dJoinS, dIsStr, strsO, gStrA, dRaiseF, dPut, itF, dCall0, dDct, seqX, wipeD, backD, e1, e2, e3, g0, g1, hc, d7, d8, d9, d10, d11, d12, d13, e4, e5, kT, sT, sW, tw, sq, p1, p2, p3, p4, p5, m1, z1, z2, n1, n2, n3, n4, n5, bh, nn, flaw1b, List.isEmpty_nil]
  · have hn2 : (S ++ [.dct []])[n]? = some (Cell.lst (X ++ [sD (Str.ofString "more")])) := by
      rw [List.getElem?_append_left (List.getElem?_eq_some_iff.mp hn).1]
      exact hn
    have hm2 : (S ++ [.dct []])[m]? = some (Cell.lst (X ++ [sD (Str.ofString "more")])) := by
      rw [List.getElem?_append_left (List.getElem?_eq_some_iff.mp hm).1]
      exact hm
    have pX : PydA 9 (X ++ [sD (Str.ofString "more")]) := fun d hd => by
      rcases List.mem_append.mp hd with hd | hd
      · exact hX d hd
      · obtain rfl : d = sD (Str.ofString "more") := by simpa using hd
        exact pyd_str
    have q1 := fun r => gEq_refl (neg := true) (a := .d (.loc n)) (b := .d (.lst (X ++ [sD (Str.ofString "more")]))) (c := ⟨r, S ++ [.dct []]⟩) pX (by
      show (match (S ++ [.dct []])[n]? with | some (.lst ds) => (pyDs ds).map PyData.list | _ => none) = _
      rw [hn2]) rfl
    have q2 := fun r => gEq_refl (neg := true) (a := .d (.loc m)) (b := .d (.lst (X ++ [sD (Str.ofString "more")]))) (c := ⟨r, S ++ [.dct []]⟩) pX (by
      show (match (S ++ [.dct []])[m]? with | some (.lst ds) => (pyDs ds).map PyData.list | _ => none) = _
      rw [hm2]) rfl
    have zx : (X.length + 1 ≤ 1000000) = True := eq_true (by omega)
    simp only [den_law, runD, dD, dNil, dCons, dAnd, dOr, dNotT, dAndV, dOrV, dNotV, dIf, dTru, dCmpT, dSeq, dRet, dSet, dSetN, dIfS, dNx, dDrop, dOp, dNeg, dTup, dLst, dC, dK, dVar, okD, okN, frz, dCall, ofF, dAug, dPar, dApp, dChain, dListOf, dSlL, dRev,
  M.bind, M.pure, M.no, M.ne, dName, dUnit, dConsG, dTupG, gOr, gI, gS, gAdd, gSubI, gMul, gDiv, gMod, gPow, gIx, gLen, gAbs, gInt1, gSum, gAll, gAny, gMaxL, gMinL, gTupOf, g2I, gDm, gPart, gTru, gBool, gBoolO, gEq_pair, gEq_ints, gEq_sl1, gEq_sl2, opL, gEq_int, gEq_str, gEq_bl, gEq_non, gNone, gIn, gSign, gCat, gRep, gIsi,
  iLt, iLe, iGt, iGe, My.isNon, truD, tagD, seqD, lstD, rdlD, mutD, putL, tupD, vsD, rng1X, rng2X, enuX, zipX, seqX,
  Option.bind, Option.map, Option.bind_some, Option.map_some,
  List.map_cons, List.map_nil, List.length_cons, List.length_nil, List.nil_append, List.cons_append, List.replicate, List.getElem?_cons_zero, List.getElem?_cons_succ, List.set_cons_zero, List.set_cons_succ, List.append_nil,
  if_true, if_false, ite_true, ite_false, Nat.reduceAdd, Int.reduceToNat, Int.reducePow, Nat.reducePow, Int.reduceMul, Int.reduceAdd, Int.reduceSub, Int.reduceLT, Int.reduceLE, Nat.reduceMul, Int.cast_ofNat_Int, Nat.reduceSub, Nat.reduceLT, Nat.reduceLeDiff, ne_eq, reduceCtorEq, not_false_eq_true, not_true_eq_false, Int.reduceEq, Int.reduceNeg, Bool.false_eq_true, Bool.not_true, Bool.not_false, decide_true, decide_false, true_and, and_true, false_and, and_false, or_true, true_or, or_false, false_or, id_eq, Bool.true_eq_false, decide_eq_true_eq, Bool.not_eq_true', decide_eq_false_iff_not, Bool.not_not, blsD, List.all_cons, List.all_nil, List.any_cons, List.any_nil, Bool.and_self, Bool.and_true, Bool.or_false, dFor, dLc, itL, wipeD, backD, isi_NoneType_bool, isi_NoneType_int, isi_NoneType_str, isi_NoneType_tuple, isi_NoneType_list, isi_NoneType_dict, isi_bool_bool, isi_bool_int, isi_bool_str, isi_bool_tuple, isi_bool_list, isi_bool_dict, isi_int_bool, isi_int_int, isi_int_str, isi_int_tuple, isi_int_list, isi_int_dict, isi_str_bool, isi_str_int, isi_str_str, isi_str_tuple, isi_str_list, isi_str_dict, isi_tuple_bool, isi_tuple_int, isi_tuple_str, isi_tuple_tuple, isi_tuple_list, isi_tuple_dict, isi_list_bool, isi_list_int, isi_list_str, isi_list_tuple, isi_list_list, isi_list_dict, isi_dict_bool, isi_dict_int, isi_dict_str, isi_dict_tuple, isi_dict_list, isi_dict_dict, dSlD, dCatN, dLcA, dLcX, dForA, dForX, gStr1, gIsiS, tagS, dJoinS, dIsStr, strsO, gStrA, dRaiseF, dPut, itF, dCall0, dDct, seqX, wipeD, backD, e1, e2, e3, g0, g1, hc, d7, d8, d9, d10, d11, d12, d13, e4, e5, kT, sT, sW, tw, sq, p1, p2, p3, p4, p5, m1, z1, z2, n1, n2, n3, n4, n5, bh, nn, flaw1b, claw1t, claw1e, q1, q2, zx, List.isEmpty_nil]
end
theorem all_ok [en : Env] {P : Program} {w : World} {K : PySem.W.Frag} {mg : Str → Option Value} (T : Tx K mg Env.HallError Env.BadSign Env.BadText Env.BadName Env.BadNumber Env.BadRing Env.BadLoan Env.TooMany Env.NoDoor Env.BadChange Env.BadKept) : ∃ f fd, mg "law" = some (.ref f) ∧ (∀ us : List Value, us.length = 1 → bindArgs fd ⟨us, []⟩ = pure ((["_law_script"] : List Str).zip us)) ∧ ∀ base : Heap, K.In base → base.Ns mainGlobals mg → FnOk P w K mg base (L2N.CX P w) 6 f fd ["_law_script"] (spG K (runD 11 1 den_law)) := by
  obtain ⟨f, fd, F, hm, hb⟩ := T.d_law
  refine ⟨f, fd, hm, hb, fun base _ _ => ?_⟩
  have h_F__law_cell_at := ok_law_cell_at (P := P) (w := w) (base := base) T 
  have h_F__law_is_word := ok_law_is_word (P := P) (w := w) (base := base) T 
  have h_F__law_kinds := ok_law_kinds (P := P) (w := w) (base := base) T 
  have h_F__law_mixed := ok_law_mixed (P := P) (w := w) (base := base) T 
  have h_F__law_odd := ok_law_odd (P := P) (w := w) (base := base) T 
  have h_F__law_runs := ok_law_runs (P := P) (w := w) (base := base) T 
  have h_F__law_told_words := ok_law_told_words (P := P) (w := w) (base := base) T 
  have h_F_is_name := ok_is_name (P := P) (w := w) (base := base) T 
  have h_F_run_of := ok_run_of (P := P) (w := w) (base := base) T 
  have h_X_BadLoan := ok_X_BadLoan (P := P) (w := w) (base := base) T 
  have h_X_BadName := ok_X_BadName (P := P) (w := w) (base := base) T 
  have h_X_BadNumber := ok_X_BadNumber (P := P) (w := w) (base := base) T 
  have h_X_BadRing := ok_X_BadRing (P := P) (w := w) (base := base) T 
  have h_X_BadSign := ok_X_BadSign (P := P) (w := w) (base := base) T 
  have h_X_BadText := ok_X_BadText (P := P) (w := w) (base := base) T 
  have h_F__law_due := ok_law_due (P := P) (w := w) (base := base) T h_F__law_is_word h_F__law_runs
  have h_F__law_name_right := ok_law_name_right (P := P) (w := w) (base := base) T h_F__law_told_words h_F_is_name
  have h_F__law_piece := ok_law_piece (P := P) (w := w) (base := base) T h_F__law_told_words
  have h_F__law_by_hand := ok_law_by_hand (P := P) (w := w) (base := base) T h_F__law_piece h_X_BadLoan h_X_BadName h_X_BadNumber h_X_BadRing h_X_BadSign h_X_BadText
  have h_F__law_text := ok_law_text (P := P) (w := w) (base := base) T h_F__law_cell_at h_F__law_mixed h_F__law_odd h_F__law_piece
  have h_F_word_from := ok_word_from (P := P) (w := w) (base := base) T h_F_run_of h_X_BadSign
  have h_F_words := ok_words (P := P) (w := w) (base := base) T h_F_word_from h_X_BadSign
  have h_F__law_told := ok_law_told (P := P) (w := w) (base := base) T h_F__law_kinds h_F_words
  exact raw_law T h_F__law_by_hand h_F__law_cell_at h_F__law_due h_F__law_mixed h_F__law_name_right h_F__law_odd h_F__law_piece h_F__law_text h_F__law_told h_F__law_told_words F
theorem fin {P : Program} {w : World} {K : PySem.W.Frag} {mg : Str → Option Value} {fa : Addr} {a_HallError : Addr} {a_BadSign : Addr} {a_BadText : Addr} {a_BadName : Addr} {a_BadNumber : Addr} {a_BadRing : Addr} {a_BadLoan : Addr} {a_TooMany : Addr} {a_NoDoor : Addr} {a_BadChange : Addr} {a_BadKept : Addr} (hmg : mg "law" = some (.ref fa)) (T : Tx K mg a_HallError a_BadSign a_BadText a_BadName a_BadNumber a_BadRing a_BadLoan a_TooMany a_NoDoor a_BadChange a_BadKept) (nd : ([a_HallError, a_BadSign, a_BadText, a_BadName, a_BadNumber, a_BadRing, a_BadLoan, a_TooMany, a_NoDoor, a_BadChange, a_BadKept] : List Addr).Nodup) : ∃ fd : FuncData, (∀ (s : Shared) (v : Value), BindsTo s fd ⟨[v], []⟩ [("_law_script", v)]) ∧ ∀ base : Heap, K.In base → base.Ns mainGlobals mg → FnOk P w K mg base (L2N.CX P w) 6 fa fd ["_law_script"] (spLaw 63 K) :=
  My.law_okS (law_true (en := ⟨a_HallError, a_BadSign, a_BadText, a_BadName, a_BadNumber, a_BadRing, a_BadLoan, a_TooMany, a_NoDoor, a_BadChange, a_BadKept, nd⟩)) hmg (all_ok (en := ⟨a_HallError, a_BadSign, a_BadText, a_BadName, a_BadNumber, a_BadRing, a_BadLoan, a_TooMany, a_NoDoor, a_BadChange, a_BadKept, nd⟩) T)
end Law
open PySem PySem.W PyProof.Rows
set_option maxRecDepth 100000 in
set_option maxHeartbeats 0 in
theorem PySem.Challenge.cw_hallclock_k01_words_holds : PySem.Challenge.rw_hallclock_k01_words.Holds := by
  w_on; o_law; k_head; (case hw => w_witness2)
  k_fill
  refine L2.walk_of (l := PySem.Challenge.rw_hallclock_k01_words) (n := 63) (k := 6) (x := "_law_script") (CX := fun w => L2N.CX (PySem.Challenge.rw_hallclock_k01_words).prog w) (sp := fun w => My.spLaw 63 _) rfl (by decide) rfl ⟨rfl, by decide, by decide⟩ (fun w h Y => by first | exact PySem.W.kIn_of Y | exact PySem.W.km_in_of Y) ?F (fun _ _ a ns hl _ hS => ⟨a, ns, rfl, hS, hl, by first | exact LamX.TabS.nil | exact (fun _ h => absurd h List.not_mem_nil) | exact trivial, fun _ => rfl⟩) (fun w H s e s' h => My.cx_end _ w H s e s' h)
  case F =>
    intro w mg fa h KX G hmg
    refine' Law.fin hmg { g_BadChange := PySem.W.mg_of KX G ?g_BadChange, g_BadKept := PySem.W.mg_of KX G ?g_BadKept, g_BadLoan := PySem.W.mg_of KX G ?g_BadLoan, g_BadName := PySem.W.mg_of KX G ?g_BadName, g_BadNumber := PySem.W.mg_of KX G ?g_BadNumber, g_BadRing := PySem.W.mg_of KX G ?g_BadRing, g_BadSign := PySem.W.mg_of KX G ?g_BadSign, g_BadText := PySem.W.mg_of KX G ?g_BadText, g_HallError := PySem.W.mg_of KX G ?g_HallError, g_NoDoor := PySem.W.mg_of KX G ?g_NoDoor, g_TooMany := PySem.W.mg_of KX G ?g_TooMany, d_law_cell_at := My.has_of KX G (fun _ _ _ _ _ _ us hl => match us, hl with | [_, _], _ => rfl) ?ad_law_cell_at ?ld_law_cell_at ?cd_law_cell_at ?kd_law_cell_at, d_law_is_word := My.has_of KX G (fun _ _ _ _ _ _ us hl => match us, hl with | [_], _ => rfl) ?ad_law_is_word ?ld_law_is_word ?cd_law_is_word ?kd_law_is_word, d_law_kinds := My.has_of KX G (fun _ _ _ _ _ _ us hl => match us, hl with | [_], _ => rfl) ?ad_law_kinds ?ld_law_kinds ?cd_law_kinds ?kd_law_kinds, d_law_mixed := My.has_of KX G (fun _ _ _ _ _ _ us hl => match us, hl with | [_, _], _ => rfl) ?ad_law_mixed ?ld_law_mixed ?cd_law_mixed ?kd_law_mixed, d_law_odd := My.has_of KX G (fun _ _ _ _ _ _ us hl => match us, hl with | [_], _ => rfl) ?ad_law_odd ?ld_law_odd ?cd_law_odd ?kd_law_odd, d_law_runs := My.has_of KX G (fun _ _ _ _ _ _ us hl => match us, hl with | [_], _ => rfl) ?ad_law_runs ?ld_law_runs ?cd_law_runs ?kd_law_runs, d_law_told_words := My.has_of KX G (fun _ _ _ _ _ _ us hl => match us, hl with | [], _ => rfl) ?ad_law_told_words ?ld_law_told_words ?cd_law_told_words ?kd_law_told_words, d_is_name := My.has_of KX G (fun _ _ _ _ _ _ us hl => match us, hl with | [_], _ => rfl) ?ad_is_name ?ld_is_name ?cd_is_name ?kd_is_name, d_run_of := My.has_of KX G (fun _ _ _ _ _ _ us hl => match us, hl with | [_, _, _], _ => rfl) ?ad_run_of ?ld_run_of ?cd_run_of ?kd_run_of, d_law_due := My.has_of KX G (fun _ _ _ _ _ _ us hl => match us, hl with | [_], _ => rfl) ?ad_law_due ?ld_law_due ?cd_law_due ?kd_law_due, d_law_name_right := My.has_of KX G (fun _ _ _ _ _ _ us hl => match us, hl with | [_], _ => rfl) ?ad_law_name_right ?ld_law_name_right ?cd_law_name_right ?kd_law_name_right, d_law_piece := My.has_of KX G (fun _ _ _ _ _ _ us hl => match us, hl with | [_], _ => rfl) ?ad_law_piece ?ld_law_piece ?cd_law_piece ?kd_law_piece, d_law_by_hand := My.has_of KX G (fun _ _ _ _ _ _ us hl => match us, hl with | [_], _ => rfl) ?ad_law_by_hand ?ld_law_by_hand ?cd_law_by_hand ?kd_law_by_hand, d_law_text := My.has_of KX G (fun _ _ _ _ _ _ us hl => match us, hl with | [_], _ => rfl) ?ad_law_text ?ld_law_text ?cd_law_text ?kd_law_text, d_word_from := My.has_of KX G (fun _ _ _ _ _ _ us hl => match us, hl with | [_, _], _ => rfl) ?ad_word_from ?ld_word_from ?cd_word_from ?kd_word_from, d_words := My.has_of KX G (fun _ _ _ _ _ _ us hl => match us, hl with | [_], _ => rfl) ?ad_words ?ld_words ?cd_words ?kd_words, d_law_told := My.has_of KX G (fun _ _ _ _ _ _ us hl => match us, hl with | [_], _ => rfl) ?ad_law_told ?ld_law_told ?cd_law_told ?kd_law_told, d_law := My.has_of KX G (fun _ _ _ _ _ _ us hl => match us, hl with | [_], _ => rfl) ?ad_law ?ld_law ?cd_law ?kd_law, n_ValueError := PySem.W.mg_none_of KX G ?n_ValueError, n_all := PySem.W.mg_none_of KX G ?n_all, n_bool := PySem.W.mg_none_of KX G ?n_bool, n_enumerate := PySem.W.mg_none_of KX G ?n_enumerate, n_isinstance := PySem.W.mg_none_of KX G ?n_isinstance, n_len := PySem.W.mg_none_of KX G ?n_len, n_list := PySem.W.mg_none_of KX G ?n_list, n_range := PySem.W.mg_none_of KX G ?n_range, n_sorted := PySem.W.mg_none_of KX G ?n_sorted, n_str := PySem.W.mg_none_of KX G ?n_str, n_tuple := PySem.W.mg_none_of KX G ?n_tuple, kc_FIGURES := ⟨_, PySem.W.mg_of KX G ?kc_FIGURES, ?rkc_FIGURES⟩, kc_LETTERS := ⟨_, PySem.W.mg_of KX G ?kc_LETTERS, ?rkc_LETTERS⟩, kc_MOST_FIGURES := ⟨_, PySem.W.mg_of KX G ?kc_MOST_FIGURES, ?rkc_MOST_FIGURES⟩, kc_MOST_LETTERS := ⟨_, PySem.W.mg_of KX G ?kc_MOST_LETTERS, ?rkc_MOST_LETTERS⟩, kc_MOST_SIGNS := ⟨_, PySem.W.mg_of KX G ?kc_MOST_SIGNS, ?rkc_MOST_SIGNS⟩, kc_TOLD := My.kt_of (PySem.W.mg_of KX G ?kc_TOLD) ?akc_TOLD ?bkc_TOLD ?ckc_TOLD ?dkc_TOLD ?rkc_TOLD, y_BadLoan := My.has_ofX KX G (fun _ _ _ _ _ _ us hl => match us, hl with | [_, _], _ => rfl) ?ay_BadLoan ?zy_BadLoan ?by_BadLoan ?cy_BadLoan ?dy_BadLoan ?ey_BadLoan ?fy_BadLoan ?gy_BadLoan ?hy_BadLoan ?iy_BadLoan ?ly_BadLoan ?my_BadLoan ?ky_BadLoan, xf_BadLoan := ⟨?axf_BadLoan, ?bxf_BadLoan, ?cxf_BadLoan, ?dxf_BadLoan⟩, y_BadName := My.has_ofX KX G (fun _ _ _ _ _ _ us hl => match us, hl with | [_, _], _ => rfl) ?ay_BadName ?zy_BadName ?by_BadName ?cy_BadName ?dy_BadName ?ey_BadName ?fy_BadName ?gy_BadName ?hy_BadName ?iy_BadName ?ly_BadName ?my_BadName ?ky_BadName, xf_BadName := ⟨?axf_BadName, ?bxf_BadName, ?cxf_BadName, ?dxf_BadName⟩, y_BadNumber := My.has_ofX KX G (fun _ _ _ _ _ _ us hl => match us, hl with | [_, _], _ => rfl) ?ay_BadNumber ?zy_BadNumber ?by_BadNumber ?cy_BadNumber ?dy_BadNumber ?ey_BadNumber ?fy_BadNumber ?gy_BadNumber ?hy_BadNumber ?iy_BadNumber ?ly_BadNumber ?my_BadNumber ?ky_BadNumber, xf_BadNumber := ⟨?axf_BadNumber, ?bxf_BadNumber, ?cxf_BadNumber, ?dxf_BadNumber⟩, y_BadRing := My.has_ofX KX G (fun _ _ _ _ _ _ us hl => match us, hl with | [_, _], _ => rfl) ?ay_BadRing ?zy_BadRing ?by_BadRing ?cy_BadRing ?dy_BadRing ?ey_BadRing ?fy_BadRing ?gy_BadRing ?hy_BadRing ?iy_BadRing ?ly_BadRing ?my_BadRing ?ky_BadRing, xf_BadRing := ⟨?axf_BadRing, ?bxf_BadRing, ?cxf_BadRing, ?dxf_BadRing⟩, y_BadSign := My.has_ofX KX G (fun _ _ _ _ _ _ us hl => match us, hl with | [_, _], _ => rfl) ?ay_BadSign ?zy_BadSign ?by_BadSign ?cy_BadSign ?dy_BadSign ?ey_BadSign ?fy_BadSign ?gy_BadSign ?hy_BadSign ?iy_BadSign ?ly_BadSign ?my_BadSign ?ky_BadSign, xf_BadSign := ⟨?axf_BadSign, ?bxf_BadSign, ?cxf_BadSign, ?dxf_BadSign⟩, y_BadText := My.has_ofX KX G (fun _ _ _ _ _ _ us hl => match us, hl with | [_, _], _ => rfl) ?ay_BadText ?zy_BadText ?by_BadText ?cy_BadText ?dy_BadText ?ey_BadText ?fy_BadText ?gy_BadText ?hy_BadText ?iy_BadText ?ly_BadText ?my_BadText ?ky_BadText, xf_BadText := ⟨?axf_BadText, ?bxf_BadText, ?cxf_BadText, ?dxf_BadText⟩, x_BadSign := ⟨?ax_BadSign, ?bx_BadSign, ?cx_BadSign, ?dx_BadSign, ?ex_BadSign, ?fx_BadSign, ?gx_BadSign, ?hx_BadSign⟩, e_BadSign_BadChange := ?e_BadSign_BadChange, e_BadSign_BadKept := ?e_BadSign_BadKept, e_BadSign_BadLoan := ?e_BadSign_BadLoan, e_BadSign_BadName := ?e_BadSign_BadName, e_BadSign_BadNumber := ?e_BadSign_BadNumber, e_BadSign_BadRing := ?e_BadSign_BadRing, e_BadSign_BadSign := ?e_BadSign_BadSign, e_BadSign_BadText := ?e_BadSign_BadText, e_BadSign_NoDoor := ?e_BadSign_NoDoor, e_BadSign_TooMany := ?e_BadSign_TooMany, e_BadSign_ValueError := ?e_BadSign_ValueError, h_BadSign_HallError := ?h_BadSign_HallError } ?nd
    (case g_BadChange => k_is)
    (case g_BadKept => k_is)
    (case g_BadLoan => k_is)
    (case g_BadName => k_is)
    (case g_BadNumber => k_is)
    (case g_BadRing => k_is)
    (case g_BadSign => k_is)
    (case g_BadText => k_is)
    (case g_HallError => k_is)
    (case g_NoDoor => k_is)
    (case g_TooMany => k_is)
    (case ad_law_cell_at => k_is)
    (case ld_law_cell_at => k_is)
    (case cd_law_cell_at => k_is)
    (case kd_law_cell_at => k_is)
    (case ad_law_is_word => k_is)
    (case ld_law_is_word => k_is)
    (case cd_law_is_word => k_is)
    (case kd_law_is_word => k_is)
    (case ad_law_kinds => k_is)
    (case ld_law_kinds => k_is)
    (case cd_law_kinds => k_is)
    (case kd_law_kinds => k_is)
    (case ad_law_mixed => k_is)
    (case ld_law_mixed => k_is)
    (case cd_law_mixed => k_is)
    (case kd_law_mixed => k_is)
    (case ad_law_odd => k_is)
    (case ld_law_odd => k_is)
    (case cd_law_odd => k_is)
    (case kd_law_odd => k_is)
    (case ad_law_runs => k_is)
    (case ld_law_runs => k_is)
    (case cd_law_runs => k_is)
    (case kd_law_runs => k_is)
    (case ad_law_told_words => k_is)
    (case ld_law_told_words => k_is)
    (case cd_law_told_words => k_is)
    (case kd_law_told_words => k_is)
    (case ad_is_name => k_is)
    (case ld_is_name => k_is)
    (case cd_is_name => k_is)
    (case kd_is_name => k_is)
    (case ad_run_of => k_is)
    (case ld_run_of => k_is)
    (case cd_run_of => k_is)
    (case kd_run_of => k_is)
    (case ad_law_due => k_is)
    (case ld_law_due => k_is)
    (case cd_law_due => k_is)
    (case kd_law_due => k_is)
    (case ad_law_name_right => k_is)
    (case ld_law_name_right => k_is)
    (case cd_law_name_right => k_is)
    (case kd_law_name_right => k_is)
    (case ad_law_piece => k_is)
    (case ld_law_piece => k_is)
    (case cd_law_piece => k_is)
    (case kd_law_piece => k_is)
    (case ad_law_by_hand => k_is)
    (case ld_law_by_hand => k_is)
    (case cd_law_by_hand => k_is)
    (case kd_law_by_hand => k_is)
    (case ad_law_text => k_is)
    (case ld_law_text => k_is)
    (case cd_law_text => k_is)
    (case kd_law_text => k_is)
    (case ad_word_from => k_is)
    (case ld_word_from => k_is)
    (case cd_word_from => k_is)
    (case kd_word_from => k_is)
    (case ad_words => k_is)
    (case ld_words => k_is)
    (case cd_words => k_is)
    (case kd_words => k_is)
    (case ad_law_told => k_is)
    (case ld_law_told => k_is)
    (case cd_law_told => k_is)
    (case kd_law_told => k_is)
    (case ad_law => k_is)
    (case ld_law => k_is)
    (case cd_law => k_is)
    (case kd_law => k_is)
    (case n_ValueError => k_is)
    (case n_all => k_is)
    (case n_bool => k_is)
    (case n_enumerate => k_is)
    (case n_isinstance => k_is)
    (case n_len => k_is)
    (case n_list => k_is)
    (case n_range => k_is)
    (case n_sorted => k_is)
    (case n_str => k_is)
    (case n_tuple => k_is)
    (case kc_FIGURES => k_is)
    (case rkc_FIGURES => first | exact ⟨_, rfl⟩ | exact rfl)
    (case kc_LETTERS => k_is)
    (case rkc_LETTERS => first | exact ⟨_, rfl⟩ | exact rfl)
    (case kc_MOST_FIGURES => k_is)
    (case rkc_MOST_FIGURES => first | exact ⟨_, rfl⟩ | exact rfl)
    (case kc_MOST_LETTERS => k_is)
    (case rkc_MOST_LETTERS => first | exact ⟨_, rfl⟩ | exact rfl)
    (case kc_MOST_SIGNS => k_is)
    (case rkc_MOST_SIGNS => first | exact ⟨_, rfl⟩ | exact rfl)
    (case kc_TOLD => k_is)
    (case akc_TOLD => first | k_is | exact rfl)
    (case bkc_TOLD => first | exact rfl | k_is)
    (case ckc_TOLD => first | exact rfl | k_is)
    (case dkc_TOLD => first | decide +kernel | exact (by decide : _ ≤ _) | k_is)
    (case rkc_TOLD => exact .cons ⟨_, rfl⟩ (.cons ⟨_, rfl⟩ (.cons ⟨_, rfl⟩ (.cons ⟨_, rfl⟩ (.cons ⟨_, rfl⟩ (.cons ⟨_, rfl⟩ (.cons ⟨_, rfl⟩ (.cons ⟨_, rfl⟩ (.cons ⟨_, rfl⟩ (.cons ⟨_, rfl⟩ (.cons ⟨_, rfl⟩ (.cons ⟨_, rfl⟩ (.cons ⟨_, rfl⟩ (.cons ⟨_, rfl⟩ (.cons ⟨_, rfl⟩ (.cons ⟨_, rfl⟩ (.cons ⟨_, rfl⟩ (.cons ⟨_, rfl⟩ (.cons ⟨_, rfl⟩ (.cons ⟨_, rfl⟩ (.cons ⟨_, rfl⟩ (.cons ⟨_, rfl⟩ (.cons ⟨_, rfl⟩ (.cons ⟨_, rfl⟩ (.cons ⟨_, rfl⟩ (.cons ⟨_, rfl⟩ (.cons ⟨_, rfl⟩ (.cons ⟨_, rfl⟩ (.cons ⟨_, rfl⟩ (.cons ⟨_, rfl⟩ (.cons ⟨_, rfl⟩ (.nil))))))))))))))))))))))))))))))))
    (case ay_BadLoan => k_is)
    (case zy_BadLoan => k_is)
    (case by_BadLoan => first | rfl | decide +kernel)
    (case cy_BadLoan => k_is)
    (case dy_BadLoan => k_is)
    (case ey_BadLoan => k_is)
    (case fy_BadLoan => k_is)
    (case gy_BadLoan => k_is)
    (case hy_BadLoan => k_is)
    (case iy_BadLoan => k_is)
    (case ly_BadLoan => k_is)
    (case my_BadLoan => k_is)
    (case ky_BadLoan => k_is)
    (case axf_BadLoan => k_is)
    (case bxf_BadLoan => k_is)
    (case cxf_BadLoan => k_is)
    (case dxf_BadLoan => k_is)
    (case ay_BadName => k_is)
    (case zy_BadName => k_is)
    (case by_BadName => first | rfl | decide +kernel)
    (case cy_BadName => k_is)
    (case dy_BadName => k_is)
    (case ey_BadName => k_is)
    (case fy_BadName => k_is)
    (case gy_BadName => k_is)
    (case hy_BadName => k_is)
    (case iy_BadName => k_is)
    (case ly_BadName => k_is)
    (case my_BadName => k_is)
    (case ky_BadName => k_is)
    (case axf_BadName => k_is)
    (case bxf_BadName => k_is)
    (case cxf_BadName => k_is)
    (case dxf_BadName => k_is)
    (case ay_BadNumber => k_is)
    (case zy_BadNumber => k_is)
    (case by_BadNumber => first | rfl | decide +kernel)
    (case cy_BadNumber => k_is)
    (case dy_BadNumber => k_is)
    (case ey_BadNumber => k_is)
    (case fy_BadNumber => k_is)
    (case gy_BadNumber => k_is)
    (case hy_BadNumber => k_is)
    (case iy_BadNumber => k_is)
    (case ly_BadNumber => k_is)
    (case my_BadNumber => k_is)
    (case ky_BadNumber => k_is)
    (case axf_BadNumber => k_is)
    (case bxf_BadNumber => k_is)
    (case cxf_BadNumber => k_is)
    (case dxf_BadNumber => k_is)
    (case ay_BadRing => k_is)
    (case zy_BadRing => k_is)
    (case by_BadRing => first | rfl | decide +kernel)
    (case cy_BadRing => k_is)
    (case dy_BadRing => k_is)
    (case ey_BadRing => k_is)
    (case fy_BadRing => k_is)
    (case gy_BadRing => k_is)
    (case hy_BadRing => k_is)
    (case iy_BadRing => k_is)
    (case ly_BadRing => k_is)
    (case my_BadRing => k_is)
    (case ky_BadRing => k_is)
    (case axf_BadRing => k_is)
    (case bxf_BadRing => k_is)
    (case cxf_BadRing => k_is)
    (case dxf_BadRing => k_is)
    (case ay_BadSign => k_is)
    (case zy_BadSign => k_is)
    (case by_BadSign => first | rfl | decide +kernel)
    (case cy_BadSign => k_is)
    (case dy_BadSign => k_is)
    (case ey_BadSign => k_is)
    (case fy_BadSign => k_is)
    (case gy_BadSign => k_is)
    (case hy_BadSign => k_is)
    (case iy_BadSign => k_is)
    (case ly_BadSign => k_is)
    (case my_BadSign => k_is)
    (case ky_BadSign => k_is)
    (case axf_BadSign => k_is)
    (case bxf_BadSign => k_is)
    (case cxf_BadSign => k_is)
    (case dxf_BadSign => k_is)
    (case ay_BadText => k_is)
    (case zy_BadText => k_is)
    (case by_BadText => first | rfl | decide +kernel)
    (case cy_BadText => k_is)
    (case dy_BadText => k_is)
    (case ey_BadText => k_is)
    (case fy_BadText => k_is)
    (case gy_BadText => k_is)
    (case hy_BadText => k_is)
    (case iy_BadText => k_is)
    (case ly_BadText => k_is)
    (case my_BadText => k_is)
    (case ky_BadText => k_is)
    (case axf_BadText => k_is)
    (case bxf_BadText => k_is)
    (case cxf_BadText => k_is)
    (case dxf_BadText => k_is)
    (case ax_BadSign => k_is)
    (case bx_BadSign => k_is)
    (case cx_BadSign => k_is)
    (case dx_BadSign => k_is)
    (case ex_BadSign => k_is)
    (case fx_BadSign => k_is)
    (case gx_BadSign => k_is)
    (case hx_BadSign => k_is)
    (case e_BadSign_BadChange => kit_is)
    (case e_BadSign_BadKept => kit_is)
    (case e_BadSign_BadLoan => kit_is)
    (case e_BadSign_BadName => kit_is)
    (case e_BadSign_BadNumber => kit_is)
    (case e_BadSign_BadRing => kit_is)
    (case e_BadSign_BadSign => kit_is)
    (case e_BadSign_BadText => kit_is)
    (case e_BadSign_NoDoor => kit_is)
    (case e_BadSign_TooMany => kit_is)
    (case e_BadSign_ValueError => kit_is)
    (case h_BadSign_HallError => kts_exm)
    (case nd => decide +kernel)
