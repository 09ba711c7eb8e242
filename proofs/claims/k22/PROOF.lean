import PyProof.Rows.All
import HandS.ExcInit
import HandS.Set
import HandS.SetTxt0
import PyProof.Rows.SetFrom
import Wide.All
import OpenK.AllK
import Wide.FinOn
import HandS.ForMost
import HandS.ForExc
import HandS.Wide
import HandS.ExcOwn
import HandS.Lambda
import KE.KeyNested
import HandS.IsInst
import KE.DataEq
import KE.Datum
import HandS.ExcCtx
import HandS.Style
import KE.DataMinMax
import KE.DataFind
import KE.DatumOrd
import KE.DataCmp
import HandS.Iter
import HandS.Text
import HandS.TupAny
import HandS.NoneIn
import HandS.Dict
import HandS.ClsMeth
import PyProof.ReprLen
import HandS.Ends
import PyProof.ReprRoads
import KE.GoesEnum
import KE.GoesZip
import KE.GoesMore
import HandS.RaiseMore
import PyProof.FitsInt
import KE.KIntText
import PyProof.StrBlock2
import HandS.Exc
import HandS.ExcIs
import HandS.CallLocal
import KE.KExcIs
import HandS.Nested
import KE.KMinKey
import HandS.ExcField
import HandS.HotCalls
import HandS.ExcInitHot
import PyProof.TupleOfSeq
import PyProof.Rows.SortShellAny
import PyProof.Rows.SortStr
import HandS.Comp
import HandS.Head0
import HandS.Head1
import HandS.Head2
import HandS.HeadEnd
import HandS.HeadHook1
import HandS.HeadHook2
import HandS.SortInts
import HandS.Hot
import HandS.EndTab
import HandS.HeadWalk
import KE.RegKIsAll
import PySem.Challenge.RW_hallclock_k22_desks
set_option Elab.async false
set_option linter.all false
set_option maxRecDepth 100000
set_option maxHeartbeats 4000000
/-! FS: sets of texts on the heap: made of a list of texts. -/
namespace My
open PySem PySem.Spec PyProof.Rows L2
abbrev SDt : Type := PySem.Froz.SD
def txtOf : Value → Str
  | .str x _ => x
  | _ => ⟨#[]⟩
/-- the set of texts at a -/
def SetX (w : World) (a : Addr) (l : List Str) (h : Heap) : Prop := ∃ D : SDt, h.get? a = some (PySem.Froz.sObj "set" D) ∧ D.2.2.fits D.1.size = true ∧ D.1.size < scanBound ∧ Ris D.2.2.place.toList ∧ (w.params.followText "set-order" = true ∨ D.2.2.led = true) ∧
  (D.1.toList.map fun e => txtOf e.2).Perm l ∧ ∀ e ∈ D.1.toList, ∃ x tk, e.2 = Value.str x tk
structure SetG (P : Program) (w : World) (a : Addr) (l : List Str) (h : Heap) (D : SDt) : Prop where
  at_ : h.get? a = some (PySem.Froz.sObj "set" D)
  ok : PySem.Froz.TxOk P w D l
  r : Ris D.2.2.place.toList
  le : w.params.followText "set-order" = true ∨ D.2.2.led = true
  p : (D.1.toList.map fun e => txtOf e.2).Perm l
  s : ∀ e ∈ D.1.toList, ∃ x tk, e.2 = Value.str x tk
theorem SetG.x {P : Program} {w : World} {a : Addr} {l : List Str} {h : Heap} {D : SDt} (g : SetG P w a l h D) (hb : l.length < scanBound) : SetX w a l h :=
  ⟨D, g.at_, g.ok.fit, by rw [g.ok.sz]; exact hb, g.r, g.le, g.p, g.s⟩
theorem SetX.at {w : World} {a : Addr} {l : List Str} {h h' : Heap} (x : SetX w a l h) (k : ∀ o, h.get? a = some o → h'.get? a = some o) : SetX w a l h' := by
  obtain ⟨D, s, r⟩ := x
  exact ⟨D, k _ s, r⟩
/-- .. as a tracked thing -/
def setO (w : World) (a : Addr) (l : List Str) : HO := .ext fun h => SetX w a l h
theorem setFrz {w : World} {a : Addr} {l : List Str} {o : Obj} {u : HO} : setO w a l ≠ .frz o u := fun z => by
  unfold setO at z
  cases z
section
variable {P : Program} {w : World} {A : Around} {E : Value → Shared → Prop} {s : Shared}
end
section
variable {prog : Program} {w : World} {A : Around} {R : Result → Shared → Prop} {I : Addr} {fp wr : List Addr} {G : Array GenState → Array GenState → Prop} {n : Nat} {Pv : Nat → Value → Prop} {St : Nat → Shared → Prop}
end
section
variable {prog : Program} {w : World} {A : Around} {E : Value → Shared → Prop} {s : Shared}
end
end My

set_option Elab.async false
set_option linter.all false
set_option maxRecDepth 100000
set_option maxHeartbeats 4000000
/-! F0: dicts whose keys are a text and a tuple of texts: the heap's side. -/
namespace My
open PySem PySem.Spec PyProof.Rows PyProof L2
abbrev NK := Str × List Str
def nkey (k : NK) : NestedKey := .tup [.text k.1, .tup (k.2.map .text)]
theorem sqT_up {K : PySem.W.Frag} {H H' : Hp} {a : Addr} {xs : List V} (e : ∀ c o, H c = some o → H' c = some o) (h : SqT K H a xs) : SqT K H' a xs := by
  rcases h with (h | ⟨o, h⟩) | h
  · exact .inl (.inl (e _ _ h))
  · exact .inl (.inr ⟨o, e _ _ h⟩)
  · exact .inr h
/-- the key's tuple stands there -/
def NAt (K : PySem.W.Frag) (H : Hp) (k : NK) (b : Addr) : Prop := ∃ c, SqT K H b [.str k.1, .ref c] ∧ SqT K H c (k.2.map V.str)
theorem NAt.mono {K : PySem.W.Frag} {H H' : Hp} {k : NK} {b : Addr} (h : NAt K H k b) (e : ∀ c o, H c = some o → H' c = some o) : NAt K H' k b := let ⟨c, h1, h2⟩ := h; ⟨c, sqT_up e h1, sqT_up e h2⟩
def nEnt (w : World) (x : NK × Addr × Value) : DictEntry := ⟨(nkey x.1).hash w, .ref x.2.1, x.2.2⟩
def ndO (w : World) (a : Addr) (xs : List (NK × Addr × Value)) : HO := .ext fun h => (a == sysModules) = false ∧ xs.length ≤ sizeLine ∧ ∃ o es ep, h.get? a = some o ∧ o.ExactDict ∧ o.data = .dict es ep ∧ es.toList = xs.map (nEnt w) ∧ (xs.map (·.1)).Nodup
theorem ndO_code {w : World} {a c : Addr} {q : Str} {xs : List (NK × Addr × Value)} : ndO w a xs ≠ LamX.CodeO c q := fun e => by
  unfold ndO LamX.CodeO at e
  injection e with e
  have hc : (⟨Array.replicate (c + 1) (⟨.none, none, .fields #[.none, .str q 0], #[]⟩ : Obj), {}⟩ : Heap).get? c = some ⟨.none, none, .fields #[.none, .str q 0], #[]⟩ := by
    unfold Heap.get?
    simp
  obtain ⟨_, _, o, es, ep, ho, _, hd, _⟩ := (congrFun e _).mpr ⟨_, _, _, hc, rfl, rfl⟩
  unfold Heap.get? at ho
  simp only [Array.getElem?_replicate] at ho
  split at ho
  · cases ho
  · split at ho
    · cases ho
      cases hd
    · cases ho
theorem ndO_tbl {w : World} {a : Addr} {ps : Array Value} {xs : List (NK × Addr × Value)} : ndO w a xs ≠ .tbl ps := fun e => by
  unfold ndO at e
  cases e
section
variable {P : Program} {w : World} {H : Hp} {h : Heap} {a b : Addr} {k : NK} {xs : List (NK × Addr × Value)}
end
section
variable {X : Cx} {w : World}
end
end My

set_option Elab.async false
set_option linter.all false
set_option maxRecDepth 100000
set_option maxHeartbeats 4000000
/-! F1: data, cells, the relation between a def's running state and its plain image. -/
namespace My
open PySem L2

/-- the object at f is a lambda -/
def LamO (f : Addr) (q : Str) (params : Arguments) (body : Expr) (scope : Scope) (cl : List (Str × Addr)) (c : Addr) : HO :=
  .ext fun h => ∃ (pm ctv : Value), h.get? f = some (PySem.W.kla_obj "<lambda>" q params body scope cl pm c ctv)
/-- a cell that a lambda took along -/
def CellX (c : Addr) (v : V) : HO := .ext fun h => ∃ u, RelV v u ∧ h.IsCell c (some u)
/-- a lambda's words, the names that it takes along -/
structure LamD where
  q : Str
  params : Arguments
  body : Expr
  scope : Scope
  fr : List Str
/-- what a lambda took along -/
structure CellsF (F : Hp) (cl : List (Str × Addr)) (fr : List Str) (xs : List V) : Prop where
  len : xs.length = fr.length
  all : ∀ y c, cl.lookup y = some c → ∃ v, F c = some (CellX c v)
  inj : ∀ x y c, cl.lookup x = some c → cl.lookup y = some c → x = y
  has : ∀ (i : Nat) (y : Str), fr[i]? = some y → ∃ c, cl.lookup y = some c ∧ ∀ v, xs[i]? = some v → F c = some (CellX c v)
theorem CellsF.mono {F F' : Hp} {cl : List (Str × Addr)} {fr : List Str} {xs : List V} (e : Same F F') (h : CellsF F cl fr xs) : CellsF F' cl fr xs :=
  ⟨h.len, fun y c z => (let ⟨v, q⟩ := h.all y c z; ⟨v, e _ _ q⟩), h.inj, fun i y z => (let ⟨c, q, r⟩ := h.has i y z; ⟨c, q, fun v w => e _ _ (r v w)⟩)⟩
/-- plain data -/
inductive D where
  | v (x : V)
  | tup (ds : List D)
  | lst (ds : List D)
  | scr (ds : List D)
  | dct (kvs : List (Key × D))
  | ins (C : Addr) (fs : List (Str × D))
  | loc (n : Nat)
  | exn (a : Addr) (od : Option Addr) (cls : Value) (fld : Option (Str × D))
  /-- an exception made by hand: its class, its field -/
  | exm (C : Addr) (f : Str) (x : D)
  /-- a set of texts -/
  | tset (w : World) (l : List Str)
  /-- a lambda kept, and what it took along -/
  | fn (l : LamD) (xs : List V)
/-- what an owned object holds -/
inductive Cell where
  | lst (ds : List D)
  | dct (kvs : List (Key × D))
  | ins (C : Addr) (fs : List (Str × D))
  | lck (kvs : List (Key × D))
  /-- a dict whose keys are a text and a tuple of texts: the keys -/
  | nd (w : World) (ks : List NK)
  /-- an object that is known to be just so, and is looked at by nobody -/
  | hid (o : HO)
  | gone
/-- nobody else's -/
def Cell.live : Cell → Prop
  | .gone => False
  | .lck _ => False
  | _ => True
/-- a dict while a loop walks it -/
def Cell.lk : Cell → Prop
  | .lck _ => True
  | _ => False
inductive Slot where
  | no
  | d (x : D)
  | own (m : Cell)
structure Stt where
  r : List Slot
  S : List Cell
/-- an exception: its class, its one field -/
structure Exn where
  cls : Value
  fld : Option (Str × D)
inductive R (α : Type) where
  | ok (a : α) (c : Stt)
  | ex (e : Exn) (c : Stt)
  | no
abbrev M (α : Type) := Stt → R α

mutual
inductive Rep (K : PySem.W.Frag) (F : Hp) (μ : List Addr) : V → D → Prop
  | v (x : V) : Rep K F μ x (.v x)
  | tup {a : Addr} {vs : List V} {ds : List D} : SqT K F a vs → Reps K F μ vs ds → Rep K F μ (.ref a) (.tup ds)
  | lst {a : Addr} {vs : List V} {ds : List D} : F a = some (.lst vs) → Reps K F μ vs ds → Rep K F μ (.ref a) (.lst ds)
  | scr {a : Addr} {vs : List V} {ds : List D} : SqL K F a vs → Reps K F μ vs ds → Rep K F μ (.ref a) (.scr ds)
  | dct {a : Addr} {kvs : List (Key × V)} {ds : List (Key × D)} : F a = some (.dK kvs) → kvs.map (·.1) = ds.map (·.1) → Reps K F μ (kvs.map (·.2)) (ds.map (·.2)) → Rep K F μ (.ref a) (.dct ds)
  | ins {a C dx : Addr} {fs : List (Str × V)} {ds : List (Str × D)} : F a = some (.ins C dx fs) → fs.map (·.1) = ds.map (·.1) → Reps K F μ (fs.map (·.2)) (ds.map (·.2)) → Rep K F μ (.ref a) (.ins C ds)
  | loc {n : Nat} {a : Addr} : μ[n]? = some a → Rep K F μ (.ref a) (.loc n)
  | exn0 {a : Addr} {cls : Value} : Rep K F μ (.ref a) (.exn a none cls none)
  | exn1 {a d : Addr} {cls : Value} {f : Str} {v : V} {x : D} : F d = some (.xd [(f, v)]) → Rep K F μ v x → Rep K F μ (.ref a) (.exn a (some d) cls (some (f, x)))
  | exm {a d C : Addr} {f : Str} {v : V} {x : D} : F a = some (exo a C (some d)) → F d = some (exd d [(f, v)]) → Rep K F μ v x → Rep K F μ (.ref a) (.exm C f x)
  | tset {a : Addr} {w : World} {l : List Str} : F a = some (setO w a l) → Rep K F μ (.ref a) (.tset w l)
  | fn {a c : Addr} {cl : List (Str × Addr)} {l : LamD} {xs : List V} : F a = some (LamO a l.q l.params l.body l.scope cl c) → F c = some (LamX.CodeO c l.q) → CellsF F cl l.fr xs → Rep K F μ (.ref a) (.fn l xs)
inductive Reps (K : PySem.W.Frag) (F : Hp) (μ : List Addr) : List V → List D → Prop
  | nil : Reps K F μ [] []
  | cons {v : V} {d : D} {vs : List V} {ds : List D} : Rep K F μ v d → Reps K F μ vs ds → Reps K F μ (v :: vs) (d :: ds)
end

theorem exdFrz {e : Addr} {fs : List (Str × V)} {o : Obj} {u : HO} : exd e fs ≠ .frz o u := fun z => by
  unfold exd at z
  cases z
/-- the world has grown -/
structure Le (F : Hp) (μ : List Addr) (F' : Hp) (μ' : List Addr) : Prop where
  ex : Same F F'
  mu : ∀ (n : Nat) (a : Addr), μ[n]? = some a → μ'[n]? = some a
theorem Le.refl (F : Hp) (μ : List Addr) : Le F μ F μ := ⟨Same.refl F, fun _ _ h => h⟩
theorem Le.trans {F F1 F2 : Hp} {μ μ1 μ2 : List Addr} (a : Le F μ F1 μ1) (b : Le F1 μ1 F2 μ2) : Le F μ F2 μ2 := ⟨a.ex.trans b.ex, fun n x h => b.mu n x (a.mu n x h)⟩
theorem Same.seqT {K : PySem.W.Frag} {H H' : Hp} {a : Addr} {xs : List V} (e : Same H H') (h : SqT K H a xs) : SqT K H' a xs := by
  rcases h with (h | ⟨o, h⟩) | h
  · exact .inl (.inl (e _ _ h))
  · exact .inl (.inr ⟨o, e _ _ h⟩)
  · exact .inr h
theorem same_new {H : Hp} {p : Addr} {o : HO} (h : H p = none) : Same H (upd H p o) := fun b x e => by
  rw [upd_ne (ne_of_none e h)]
  exact e
section
variable {K : PySem.W.Frag} {F F' : Hp} {μ μ' : List Addr}
mutual
theorem Rep.mono (le : Le F μ F' μ') : ∀ {v : V} {d : D}, Rep K F μ v d → Rep K F' μ' v d
  | _, _, .v x => .v x
  | _, _, .tup h r => .tup (Same.seqT le.ex h) (Reps.mono le r)
  | _, _, .lst h r => .lst (le.ex _ _ h) (Reps.mono le r)
  | _, _, .scr h r => .scr (le.ex.seq h) (Reps.mono le r)
  | _, _, .dct h k r => .dct (le.ex _ _ h) k (Reps.mono le r)
  | _, _, .ins h k r => .ins (le.ex _ _ h) k (Reps.mono le r)
  | _, _, .loc h => .loc (le.mu _ _ h)
  | _, _, .exn0 => .exn0
  | _, _, .exn1 h r => .exn1 (le.ex _ _ h) (Rep.mono le r)
  | _, _, .exm h g r => .exm (le.ex _ _ h) (le.ex _ _ g) (Rep.mono le r)
  | _, _, .tset h => .tset (le.ex _ _ h)
  | _, _, .fn h g r => .fn (le.ex _ _ h) (le.ex _ _ g) (r.mono le.ex)
theorem Reps.mono (le : Le F μ F' μ') : ∀ {vs : List V} {ds : List D}, Reps K F μ vs ds → Reps K F' μ' vs ds
  | _, _, .nil => .nil
  | _, _, .cons h r => .cons (Rep.mono le h) (Reps.mono le r)
end
theorem Reps.length : ∀ {vs : List V} {ds : List D}, Reps K F μ vs ds → vs.length = ds.length
  | _, _, .nil => rfl
  | _, _, .cons _ r => congrArg (· + 1) (Reps.length r)
theorem Reps.append : ∀ {vs ws : List V} {ds es : List D}, Reps K F μ vs ds → Reps K F μ ws es → Reps K F μ (vs ++ ws) (ds ++ es)
  | _, _, _, _, .nil, s => s
  | _, _, _, _, .cons h r, s => .cons h (Reps.append r s)
theorem Reps.get : ∀ {vs : List V} {ds : List D} {i : Nat} {d : D}, Reps K F μ vs ds → ds[i]? = some d → ∃ v, vs[i]? = some v ∧ Rep K F μ v d
  | _, _, _, _, .nil, e => by simp at e
  | _, _, 0, _, .cons h _, e => by simp at e; subst e; exact ⟨_, rfl, h⟩
  | _, _, i + 1, d, .cons _ r, e => by
    obtain ⟨v, h1, h2⟩ := Reps.get (i := i) (d := d) r (by simpa using e)
    exact ⟨v, by simpa using h1, h2⟩
theorem Reps.getV {vs : List V} {ds : List D} {i : Nat} {v : V} (h : Reps K F μ vs ds) (e : vs[i]? = some v) : ∃ d, ds[i]? = some d ∧ Rep K F μ v d := by
  have hi := (List.getElem?_eq_some_iff.mp e).1
  have hj : i < ds.length := by rw [← h.length]; exact hi
  obtain ⟨w, h1, h2⟩ := h.get (List.getElem?_eq_getElem hj)
  rw [e] at h1
  cases h1
  exact ⟨_, List.getElem?_eq_getElem hj, h2⟩
theorem Reps.take : ∀ {vs : List V} {ds : List D} (n : Nat), Reps K F μ vs ds → Reps K F μ (vs.take n) (ds.take n)
  | _, _, 0, _ => .nil
  | _, _, _ + 1, .nil => .nil
  | _, _, n + 1, .cons h r => .cons h (Reps.take n r)
theorem Reps.drop : ∀ {vs : List V} {ds : List D} (n : Nat), Reps K F μ vs ds → Reps K F μ (vs.drop n) (ds.drop n)
  | _, _, 0, r => r
  | _, _, _ + 1, .nil => .nil
  | _, _, n + 1, .cons _ r => Reps.drop n r
theorem Reps.set {v : V} {d : D} (h : Rep K F μ v d) : ∀ {vs : List V} {ds : List D} (i : Nat), Reps K F μ vs ds → Reps K F μ (vs.set i v) (ds.set i d)
  | _, _, _, .nil => .nil
  | _, _, 0, .cons _ t => .cons h t
  | _, _, i + 1, .cons q t => .cons q (Reps.set h i t)
theorem Reps.snoc {vs : List V} {ds : List D} {v : V} {d : D} (r : Reps K F μ vs ds) (h : Rep K F μ v d) : Reps K F μ (vs ++ [v]) (ds ++ [d]) := r.append (.cons h .nil)
theorem Reps.rep {vs : List V} {ds : List D} (h : Reps K F μ vs ds) : ∀ k : Nat, Reps K F μ (List.replicate k vs).flatten (List.replicate k ds).flatten
  | 0 => .nil
  | k + 1 => by
    rw [List.replicate_succ, List.replicate_succ, List.flatten_cons, List.flatten_cons]
    exact h.append (Reps.rep h k)
end

theorem lkE {m : Cell} (h : m.live) (g : m.lk) : False := by
  cases m <;> first | exact h | exact g
/-- an object that is neither a table nor a code object -/
def HO.noTab (o : HO) : Prop := (∀ ps, o ≠ .tbl ps) ∧ ∀ c q, o ≠ LamX.CodeO c q
/-- an owned object's content -/
inductive CellO (K : PySem.W.Frag) (F : Hp) (μ : List Addr) (p : Addr) : HO → Cell → Prop
  | lst {vs : List V} {ds : List D} : Reps K F μ vs ds → CellO K F μ p (.lst vs) (.lst ds)
  | dct {kvs : List (Key × V)} {ds : List (Key × D)} : kvs.map (·.1) = ds.map (·.1) → Reps K F μ (kvs.map (·.2)) (ds.map (·.2)) → CellO K F μ p (.dK kvs) (.dct ds)
  | ins {C dx : Addr} {fs : List (Str × V)} {ds : List (Str × D)} : fs.map (·.1) = ds.map (·.1) → Reps K F μ (fs.map (·.2)) (ds.map (·.2)) → CellO K F μ p (.ins C dx fs) (.ins C ds)
  | lck {ob : Obj} {kvs : List (Key × V)} {ds : List (Key × D)} : kvs.map (·.1) = ds.map (·.1) → Reps K F μ (kvs.map (·.2)) (ds.map (·.2)) → CellO K F μ p (.frz ob (.dK kvs)) (.lck ds)
  | nd {w : World} {xs : List (NK × Addr × Value)} {ks : List NK} : xs.map (·.1) = ks → (∀ x ∈ xs, NAt K F x.1 x.2.1) → CellO K F μ p (ndO w p xs) (.nd w ks)
  | hid {o : HO} : HO.noTab o → CellO K F μ p o (.hid o)
  | gone {o : HO} : CellO K F μ p o .gone
theorem CellO.mono {K : PySem.W.Frag} {F F' : Hp} {μ μ' : List Addr} {p : Addr} {o : HO} {m : Cell} (le : Le F μ F' μ') (h : CellO K F μ p o m) : CellO K F' μ' p o m := by
  cases h with
  | lst r => exact .lst (r.mono le)
  | dct k r => exact .dct k (r.mono le)
  | ins k r => exact .ins k (r.mono le)
  | lck k r => exact .lck k (r.mono le)
  | nd k r => exact .nd k fun x hx => (r x hx).mono le.ex
  | hid n => exact .hid n
  | gone => exact .gone

structure CellAt (K : PySem.W.Frag) (Z F : Hp) (μ : List Addr) (H : Hp) (a : Addr) (m : Cell) : Prop where
  z : Z a = none
  f : m.live → F a = none
  o : ∃ o, H a = some o ∧ CellO K F μ a o m
  l : m.lk → F a = H a
/-- tables of code objects, nobody's, whose code objects stand for good -/
structure TabF (Z F H : Hp) (p : Addr × Str) : Prop where
  f : F p.1 = none
  z : Z p.1 = none
  t : ∃ ps : Array Value, H p.1 = some (.tbl ps) ∧ TriplesOk ps.toList ∧ ∀ (pos : Pos) (cv : Value), codeAmong pos ps.toList = some cv → ∃ c, cv = .ref c ∧ F c = some (LamX.CodeO c p.2)
def TabsF (T : List (Addr × Str)) (Z F H : Hp) : Prop := ∀ p ∈ T, TabF Z F H p
theorem TabsF.ext {T : List (Addr × Str)} {Z F H H' : Hp} (t : TabsF T Z F H) (e : Same H H') : TabsF T Z F H' := fun p hp => by
  obtain ⟨hf, hz, ps, h1, h2, h3⟩ := t p hp
  exact ⟨hf, hz, ps, e _ _ h1, h2, h3⟩
theorem TabsF.up {T : List (Addr × Str)} {Z F H : Hp} {q : Addr} {o o' : HO} (t : TabsF T Z F H) (fq : F q = none) (hq : H q = some o) (n : ∀ ps, o ≠ .tbl ps) : TabsF T Z (upd F q o') H := fun p hp => by
  obtain ⟨hf, hz, ps, h1, h2, h3⟩ := t p hp
  have ne : p.1 ≠ q := fun z => n ps (Option.some.inj (hq.symm.trans (by rw [← z]; exact h1)))
  refine ⟨by rw [upd_ne ne]; exact hf, hz, ps, h1, h2, fun pos cv z => ?_⟩
  obtain ⟨c, q1, r⟩ := h3 pos cv z
  exact ⟨c, q1, by rw [upd_ne (fun y => by subst y; rw [fq] at r; cases r)]; exact r⟩
theorem TabsF.tabs {T : List (Addr × Str)} {Z F H : Hp} (t : TabsF T Z F H) (e : Same F H) : LamX.Tabs T H := fun p hp => by
  obtain ⟨_, _, ps, h1, h2, h3⟩ := t p hp
  exact ⟨ps, h1, h2, fun pos cv z => (let ⟨c, q, r⟩ := h3 pos cv z; ⟨c, q, e _ _ r⟩)⟩
theorem TabsF.side {T : List (Addr × Str)} {Z Z' F H : Hp} (t : TabsF T Z F H) (k : ∀ p ∈ T, (∃ ps, H p.1 = some (.tbl ps)) → Z p.1 = none → Z' p.1 = none) : TabsF T Z' F H := fun p hp => by
  obtain ⟨hf, hz, ps, h1, h2, h3⟩ := t p hp
  exact ⟨hf, k p hp ⟨ps, h1⟩ hz, ps, h1, h2, h3⟩
/-- the tables of code objects that grow: of defs that make functions -/
class TabEnv where
  T : List (Addr × Str)
variable [TabEnv]
/-- the state and its image: F what stands for good, Z what others own, μ where the store's objects are -/
structure Rel (K : PySem.W.Frag) (Z F : Hp) (μ : List Addr) (c : Stt) (σ : St) (H : Hp) : Prop where
  ex : Same F H
  exz : Same Z H
  fz : ∀ a o, Z a = some o → F a = none
  len : σ.length = c.r.length
  slot : ∀ (i : Nat) (x : D), c.r[i]? = some (.d x) → ∃ v, σ[i]? = some (some v) ∧ Rep K F μ v x
  own : ∀ (i : Nat) (m : Cell), c.r[i]? = some (.own m) → ∃ a, σ[i]? = some (some (.ref a)) ∧ CellAt K Z F μ H a m ∧ m.live
  dis : ∀ (i j : Nat) (a : Addr) (m m' : Cell), c.r[i]? = some (.own m) → c.r[j]? = some (.own m') → σ[i]? = some (some (.ref a)) → σ[j]? = some (some (.ref a)) → i = j
  lm : μ.length = c.S.length
  sto : ∀ (n : Nat) (a : Addr) (m : Cell), μ[n]? = some a → c.S[n]? = some m → CellAt K Z F μ H a m
  dst : ∀ (i n : Nat) (a : Addr) (m : Cell), c.r[i]? = some (.own m) → σ[i]? = some (some (.ref a)) → μ[n]? = some a → False
  ndm : ∀ (n k : Nat) (a : Addr), μ[n]? = some a → μ[k]? = some a → n = k
  tab : TabsF TabEnv.T Z F H
theorem CellO.noTab {K : PySem.W.Frag} {F : Hp} {μ : List Addr} {p : Addr} {o : HO} {m : Cell} (h : CellO K F μ p o m) (hm : m.live) : HO.noTab o := by
  cases h with
  | lst r => exact ⟨fun ps z => (by cases z), fun c q z => (by unfold LamX.CodeO at z; cases z)⟩
  | dct k r => exact ⟨fun ps z => (by cases z), fun c q z => (by unfold LamX.CodeO at z; cases z)⟩
  | ins k r => exact ⟨fun ps z => (by cases z), fun c q z => (by unfold LamX.CodeO at z; cases z)⟩
  | lck k r => exact hm.elim
  | nd k r => exact ⟨fun ps z => ndO_tbl z, fun c q z => ndO_code z⟩
  | hid n => exact n
  | gone => exact hm.elim
theorem noTab_lst {xs : List V} : HO.noTab (.lst xs) := ⟨fun ps z => (by cases z), fun c q z => (by unfold LamX.CodeO at z; cases z)⟩
theorem noTab_dK {xs : List (Key × V)} : HO.noTab (.dK xs) := ⟨fun ps z => (by cases z), fun c q z => (by unfold LamX.CodeO at z; cases z)⟩
theorem tabs_put {T : List (Addr × Str)} {Z F H : Hp} {p : Addr} {o0 o : HO} (t : TabsF T Z F H) (hp : H p = some o0) (n : HO.noTab o0) : TabsF T Z F (upd H p o) := fun x hx => by
  obtain ⟨hf, hz, ps, h1, h2, h3⟩ := t x hx
  refine ⟨hf, hz, ps, ?_, h2, h3⟩
  rw [upd_ne (fun z => n.1 ps (Option.some.inj (hp.symm.trans (by rw [← z]; exact h1))))]
  exact h1

section
variable {K : PySem.W.Frag} {Z F F' : Hp} {μ μ' : List Addr} {c : Stt} {σ : St} {H H' : Hp} {p : Addr} {o : HO}
omit [TabEnv] in
theorem CellAt.grow {a : Addr} {m : Cell} (h : CellAt K Z F μ H a m) (le : Le F μ F' μ') (hf : m.live → F' a = none) (eh : Same H H') : CellAt K Z F' μ' H' a m :=
  ⟨h.z, hf, let ⟨o, e, q⟩ := h.o; ⟨o, eh _ _ e, q.mono le⟩, fun g => let ⟨o, e, _⟩ := h.o; (le.ex _ _ ((h.l g).trans e)).trans (eh _ _ e).symm⟩
/-- the heap has grown -/
theorem Rel.up (h : Rel K Z F μ c σ H) (e : Same H H') : Rel K Z F μ c σ H' :=
  { ex := h.ex.trans e, exz := h.exz.trans e, fz := h.fz, len := h.len, slot := h.slot,
    own := fun i m q => (let ⟨a, e1, e2, e3⟩ := h.own i m q; ⟨a, e1, e2.grow (Le.refl F μ) e2.f e, e3⟩), dis := h.dis, lm := h.lm,
    sto := fun n a m e1 e2 => (h.sto n a m e1 e2).grow (Le.refl F μ) (h.sto n a m e1 e2).f e, dst := h.dst, ndm := h.ndm, tab := h.tab.ext e }
theorem Rel.freeF (h : Rel K Z F μ c σ H) (n : H p = none) : F p = none := h.ex.free n
theorem Rel.freeZ (h : Rel K Z F μ c σ H) (n : H p = none) : Z p = none := h.exz.free n
/-- an object that nobody owns stands for good from now on -/
theorem Rel.fix (h : Rel K Z F μ c σ H) (hp : H p = some o) (fp : F p = none) (zp : Z p = none) (no : ∀ (i : Nat) (m : Cell), c.r[i]? = some (.own m) → σ[i]? ≠ some (some (.ref p))) (nm : ∀ (n : Nat) (m : Cell), μ[n]? = some p → c.S[n]? = some m → m = .gone) (nt : ∀ ps, o ≠ .tbl ps := by intro ps z; cases z) :
    Rel K Z (upd F p o) μ c σ H ∧ Le F μ (upd F p o) μ := by
  have le : Le F μ (upd F p o) μ := ⟨same_new fp, fun _ _ h => h⟩
  refine ⟨{ ex := fun b x e => ?_, exz := h.exz, fz := fun a x e => ?_, len := h.len, slot := fun i x e => (let ⟨v, e1, e2⟩ := h.slot i x e; ⟨v, e1, e2.mono le⟩), own := fun i m q => ?_, dis := h.dis, lm := h.lm, sto := fun n a m e1 e2 => ?_, dst := h.dst, ndm := h.ndm, tab := h.tab.up fp hp nt }, le⟩
  · by_cases hb : b = p
    · subst hb; rw [upd_same] at e; cases e; exact hp
    · rw [upd_ne hb] at e; exact h.ex b x e
  · have : a ≠ p := fun z => by subst z; rw [zp] at e; cases e
    rw [upd_ne this]; exact h.fz a x e
  · obtain ⟨a, e1, e2, e3⟩ := h.own i m q
    have : a ≠ p := fun z => by subst z; exact no i m q e1
    exact ⟨a, e1, e2.grow le (fun g => by rw [upd_ne this]; exact e2.f g) (Same.refl H), e3⟩
  · have e3 := h.sto n a m e1 e2
    refine e3.grow le (fun g => ?_) (Same.refl H)
    have : a ≠ p := fun z => by
      subst z
      rw [nm n m e1 e2] at g
      exact g
    rw [upd_ne this]; exact e3.f g
/-- a new object that stands for good -/
theorem Rel.new (h : Rel K Z F μ c σ H) (n : H p = none) (nt : ∀ ps, o ≠ .tbl ps := by intro ps z; cases z) : Rel K Z (upd F p o) μ c σ (upd H p o) ∧ Le F μ (upd F p o) μ := by
  refine (h.up (same_new n)).fix upd_same (h.freeF n) (h.freeZ n) (fun i m q e => ?_) (fun k m e1 e2 => ?_) ?_
  · obtain ⟨a, e1, ⟨_, _, ⟨u, e2, _⟩, _⟩, _⟩ := h.own i m q
    rw [e1] at e; cases e; rw [n] at e2; cases e2
  · obtain ⟨_, _, ⟨u, e3, _⟩, _⟩ := h.sto k p m e1 e2
    rw [n] at e3; cases e3
  · exact nt
/-- what is fresh is nobody's -/
theorem Rel.nobody (h : Rel K Z F μ c σ H) (n : H p = none) : (∀ (i : Nat) (m : Cell), c.r[i]? = some (.own m) → σ[i]? ≠ some (some (.ref p))) ∧ (∀ (k : Nat), μ[k]? ≠ some p) := by
  refine ⟨fun i m q e => ?_, fun k e1 => ?_⟩
  · obtain ⟨a, e1, ⟨_, _, ⟨u, e2, _⟩, _⟩, _⟩ := h.own i m q
    rw [e1] at e; cases e; rw [n] at e2; cases e2
  · have hk : k < c.S.length := by rw [← h.lm]; exact (List.getElem?_eq_some_iff.mp e1).1
    obtain ⟨_, _, ⟨u, e3, _⟩, _⟩ := h.sto k p _ e1 (List.getElem?_eq_getElem hk)
    rw [n] at e3; cases e3
/-- a slot takes a value -/
theorem Rel.setD (h : Rel K Z F μ c σ H) {i : Nat} {v : V} {x : D} (r : Rep K F μ v x) : Rel K Z F μ ⟨c.r.set i (.d x), c.S⟩ (σ.set i (some v)) H := by
  have key : ∀ (j : Nat) (m : Cell), (c.r.set i (.d x))[j]? = some (.own m) → j ≠ i ∧ c.r[j]? = some (.own m) := fun j m q => by
    by_cases hj : j = i
    · subst hj
      rw [List.getElem?_set] at q
      simp at q
    · rw [List.getElem?_set_ne (Ne.symm hj)] at q; exact ⟨hj, q⟩
  refine { ex := h.ex, exz := h.exz, fz := h.fz, len := by simpa using h.len, slot := fun j y q => ?_, own := fun j m q => ?_, dis := fun j k a m m' q1 q2 e1 e2 => ?_, lm := h.lm, sto := h.sto, dst := fun j n a m q e1 e2 => ?_, ndm := h.ndm, tab := h.tab }
  · by_cases hj : j = i
    · subst hj
      have hl : j < c.r.length := by
        have := (List.getElem?_eq_some_iff.mp q).1
        simpa using this
      rw [List.getElem?_set_self hl] at q
      cases q
      exact ⟨v, by rw [List.getElem?_set_self (by rw [h.len]; exact hl)], r⟩
    · rw [List.getElem?_set_ne (Ne.symm hj)] at q
      obtain ⟨w, e1, e2⟩ := h.slot j y q
      exact ⟨w, by rw [List.getElem?_set_ne (Ne.symm hj)]; exact e1, e2⟩
  · obtain ⟨hj, q⟩ := key j m q
    rw [List.getElem?_set_ne (Ne.symm hj)]
    exact h.own j m q
  · obtain ⟨hj, q1⟩ := key j m q1
    obtain ⟨hk, q2⟩ := key k m' q2
    rw [List.getElem?_set_ne (Ne.symm hj)] at e1
    rw [List.getElem?_set_ne (Ne.symm hk)] at e2
    exact h.dis j k a m m' q1 q2 e1 e2
  · obtain ⟨hj, q⟩ := key j m q
    rw [List.getElem?_set_ne (Ne.symm hj)] at e1
    exact h.dst j n a m q e1 e2
/-- a slot takes an object of its own -/
theorem Rel.setOwn (h : Rel K Z F μ c σ H) {i : Nat} {m : Cell} (hp : H p = some o) (fp : F p = none) (zp : Z p = none) (no : ∀ (j : Nat) (m : Cell), c.r[j]? = some (.own m) → σ[j]? ≠ some (some (.ref p))) (nm : ∀ (n : Nat), μ[n]? ≠ some p)
    (r : CellO K F μ p o m) (hm : m.live) : Rel K Z F μ ⟨c.r.set i (.own m), c.S⟩ (σ.set i (some (.ref p))) H := by
  have key : ∀ (j : Nat) (m' : Cell), (c.r.set i (.own m))[j]? = some (.own m') → (j = i ∧ m' = m ∧ j < c.r.length) ∨ (j ≠ i ∧ c.r[j]? = some (.own m')) := fun j m' q => by
    by_cases hj : j = i
    · subst hj
      have hl : j < c.r.length := by
        have := (List.getElem?_eq_some_iff.mp q).1
        simpa using this
      rw [List.getElem?_set_self hl] at q
      cases q
      exact .inl ⟨rfl, rfl, hl⟩
    · rw [List.getElem?_set_ne (Ne.symm hj)] at q; exact .inr ⟨hj, q⟩
  refine { ex := h.ex, exz := h.exz, fz := h.fz, len := by simpa using h.len, slot := fun j y q => ?_, own := fun j m' q => ?_, dis := fun j k a m1 m2 q1 q2 e1 e2 => ?_, lm := h.lm, sto := h.sto, dst := fun j n a m' q e1 e2 => ?_, ndm := h.ndm, tab := h.tab }
  · by_cases hj : j = i
    · subst hj
      rw [List.getElem?_set] at q
      simp at q
    · rw [List.getElem?_set_ne (Ne.symm hj)] at q
      obtain ⟨w, e1, e2⟩ := h.slot j y q
      exact ⟨w, by rw [List.getElem?_set_ne (Ne.symm hj)]; exact e1, e2⟩
  · rcases key j m' q with ⟨rfl, rfl, hl⟩ | ⟨hj, q⟩
    · exact ⟨p, by rw [List.getElem?_set_self (by rw [h.len]; exact hl)], ⟨zp, fun _ => fp, ⟨o, hp, r⟩, fun g => (lkE hm g).elim⟩, hm⟩
    · rw [List.getElem?_set_ne (Ne.symm hj)]
      exact h.own j m' q
  · rcases key j m1 q1 with ⟨rfl, _, hl⟩ | ⟨hj, q3⟩
    · rw [List.getElem?_set_self (by rw [h.len]; exact hl)] at e1
      cases e1
      rcases key k m2 q2 with ⟨rfl, _, _⟩ | ⟨hk, q4⟩
      · rfl
      · rw [List.getElem?_set_ne (Ne.symm hk)] at e2
        exact absurd e2 (no k m2 q4)
    · rw [List.getElem?_set_ne (Ne.symm hj)] at e1
      rcases key k m2 q2 with ⟨rfl, _, hl⟩ | ⟨hk, q4⟩
      · rw [List.getElem?_set_self (by rw [h.len]; exact hl)] at e2
        cases e2
        exact absurd e1 (no j m1 q3)
      · rw [List.getElem?_set_ne (Ne.symm hk)] at e2
        exact h.dis j k a m1 m2 q3 q4 e1 e2
  · rcases key j m' q with ⟨rfl, _, hl⟩ | ⟨hj, q⟩
    · rw [List.getElem?_set_self (by rw [h.len]; exact hl)] at e1
      cases e1
      exact nm n e2
    · rw [List.getElem?_set_ne (Ne.symm hj)] at e1
      exact h.dst j n a m' q e1 e2
/-- the object of a slot is written -/
theorem Rel.write (h : Rel K Z F μ c σ H) {i : Nat} {m m' : Cell} (q : c.r[i]? = some (.own m)) (e : σ[i]? = some (some (.ref p))) (r : CellO K F μ p o m') (hm : m'.live) :
    Rel K Z F μ ⟨c.r.set i (.own m'), c.S⟩ σ (upd H p o) := by
  obtain ⟨p', e', cp, hg⟩ := h.own i m q
  rw [e] at e'; cases e'
  have hl : i < c.r.length := (List.getElem?_eq_some_iff.mp q).1
  have key : ∀ (j : Nat) (m1 : Cell), (c.r.set i (.own m'))[j]? = some (.own m1) → (j = i ∧ m1 = m') ∨ (j ≠ i ∧ c.r[j]? = some (.own m1)) := fun j m1 q1 => by
    by_cases hj : j = i
    · subst hj
      rw [List.getElem?_set_self hl] at q1
      cases q1
      exact .inl ⟨rfl, rfl⟩
    · rw [List.getElem?_set_ne (Ne.symm hj)] at q1; exact .inr ⟨hj, q1⟩
  refine { ex := fun b x eb => ?_, exz := fun b x eb => ?_, fz := h.fz, len := by simpa using h.len, slot := fun j y q1 => ?_, own := fun j m1 q1 => ?_, dis := fun j k a m1 m2 q1 q2 e1 e2 => ?_, lm := h.lm, sto := fun n a m1 e1 e2 => ?_, dst := fun j n a m1 q1 e1 e2 => ?_, ndm := h.ndm, tab := (let ⟨_, ho, hc⟩ := cp.o; tabs_put h.tab ho (hc.noTab hg)) }
  · have : b ≠ p := fun z => by subst z; rw [cp.f hg] at eb; cases eb
    rw [upd_ne this]; exact h.ex b x eb
  · have : b ≠ p := fun z => by subst z; rw [cp.z] at eb; cases eb
    rw [upd_ne this]; exact h.exz b x eb
  · by_cases hj : j = i
    · subst hj
      rw [List.getElem?_set_self hl] at q1
      cases q1
    · rw [List.getElem?_set_ne (Ne.symm hj)] at q1
      exact h.slot j y q1
  · rcases key j m1 q1 with ⟨rfl, rfl⟩ | ⟨hj, q1⟩
    · exact ⟨p, e, ⟨cp.z, fun _ => cp.f hg, ⟨o, upd_same, r⟩, fun g => (lkE hm g).elim⟩, hm⟩
    · obtain ⟨a, e1, c1, g1⟩ := h.own j m1 q1
      have : a ≠ p := fun z => by subst z; exact hj (h.dis j i a m1 m q1 q e1 e)
      exact ⟨a, e1, ⟨c1.z, c1.f, let ⟨u, e2, e3⟩ := c1.o; ⟨u, by rw [upd_ne this]; exact e2, e3⟩, fun g => by rw [upd_ne this]; exact c1.l g⟩, g1⟩
  · rcases key j m1 q1 with ⟨rfl, _⟩ | ⟨hj, q3⟩ <;> rcases key k m2 q2 with ⟨rfl, _⟩ | ⟨hk, q4⟩
    · rfl
    · exact h.dis _ _ a m m2 q q4 e1 e2
    · exact h.dis _ _ a m1 m q3 q e1 e2
    · exact h.dis j k a m1 m2 q3 q4 e1 e2
  · have c1 := h.sto n a m1 e1 e2
    have : a ≠ p := fun z => by subst z; exact h.dst i n a m q e e1
    exact ⟨c1.z, c1.f, let ⟨u, e2, e3⟩ := c1.o; ⟨u, by rw [upd_ne this]; exact e2, e3⟩, fun g => by rw [upd_ne this]; exact c1.l g⟩
  · rcases key j m1 q1 with ⟨rfl, _⟩ | ⟨hj, q1⟩
    · exact h.dst _ n a m q e1 e2
    · exact h.dst j n a m1 q1 e1 e2
/-- the object of a slot stands for good -/
theorem Rel.freeze (h : Rel K Z F μ c σ H) {i : Nat} {m : Cell} {x : D} (q : c.r[i]? = some (.own m)) (e : σ[i]? = some (some (.ref p))) (hp : H p = some o)
    (r : Rep K (upd F p o) μ (.ref p) x) : Rel K Z (upd F p o) μ ⟨c.r.set i (.d x), c.S⟩ σ H ∧ Le F μ (upd F p o) μ := by
  obtain ⟨p', e', cp, hg⟩ := h.own i m q
  rw [e] at e'; cases e'
  have fp : F p = none := cp.f hg
  have le : Le F μ (upd F p o) μ := ⟨same_new fp, fun _ _ h => h⟩
  have hl : i < c.r.length := (List.getElem?_eq_some_iff.mp q).1
  have key : ∀ (j : Nat) (m1 : Cell), (c.r.set i (.d x))[j]? = some (.own m1) → (j ≠ i ∧ c.r[j]? = some (.own m1)) := fun j m1 q1 => by
    by_cases hj : j = i
    · subst hj
      rw [List.getElem?_set_self hl] at q1
      cases q1
    · rw [List.getElem?_set_ne (Ne.symm hj)] at q1; exact ⟨hj, q1⟩
  refine ⟨{ ex := fun b x1 eb => ?_, exz := h.exz, fz := fun a x1 ea => ?_, len := by simpa using h.len, slot := fun j y q1 => ?_, own := fun j m1 q1 => ?_, dis := fun j k a m1 m2 q1 q2 e1 e2 => ?_, lm := h.lm, sto := fun n a m1 e1 e2 => ?_, dst := fun j n a m1 q1 e1 e2 => ?_, ndm := h.ndm, tab := h.tab.up fp hp (by obtain ⟨u, eu, cu⟩ := cp.o; rw [hp] at eu; cases eu; exact (cu.noTab hg).1) }, le⟩
  · by_cases hb : b = p
    · subst hb; rw [upd_same] at eb; cases eb; exact hp
    · rw [upd_ne hb] at eb; exact h.ex b x1 eb
  · have : a ≠ p := fun z => by subst z; rw [cp.z] at ea; cases ea
    rw [upd_ne this]; exact h.fz a x1 ea
  · by_cases hj : j = i
    · subst hj
      rw [List.getElem?_set_self hl] at q1
      cases q1
      exact ⟨_, e, r⟩
    · rw [List.getElem?_set_ne (Ne.symm hj)] at q1
      obtain ⟨w, e1, e2⟩ := h.slot j y q1
      exact ⟨w, e1, e2.mono le⟩
  · obtain ⟨hj, q1⟩ := key j m1 q1
    obtain ⟨a, e1, c1, g1⟩ := h.own j m1 q1
    have : a ≠ p := fun z => by subst z; exact hj (h.dis j i a m1 m q1 q e1 e)
    exact ⟨a, e1, c1.grow le (fun g => by rw [upd_ne this]; exact c1.f g) (Same.refl H), g1⟩
  · obtain ⟨hj, q1⟩ := key j m1 q1
    obtain ⟨hk, q2⟩ := key k m2 q2
    exact h.dis j k a m1 m2 q1 q2 e1 e2
  · have c1 := h.sto n a m1 e1 e2
    have : a ≠ p := fun z => by subst z; exact h.dst i n a m q e e1
    exact c1.grow le (fun g => by rw [upd_ne this]; exact c1.f g) (Same.refl H)
  · obtain ⟨hj, q1⟩ := key j m1 q1
    exact h.dst j n a m1 q1 e1 e2
/-- a new object of the store -/
theorem Rel.push (h : Rel K Z F μ c σ H) {m : Cell} (hp : H p = some o) (fp : F p = none) (zp : Z p = none) (no : ∀ (j : Nat) (m : Cell), c.r[j]? = some (.own m) → σ[j]? ≠ some (some (.ref p))) (nm : ∀ (n : Nat), μ[n]? ≠ some p)
    (r : CellO K F (μ ++ [p]) p o m) (hm : m.live := by trivial) : Rel K Z F (μ ++ [p]) ⟨c.r, c.S ++ [m]⟩ σ H ∧ Le F μ F (μ ++ [p]) := by
  have get : ∀ (n : Nat) (a : Addr), (μ ++ [p])[n]? = some a → (n < μ.length ∧ μ[n]? = some a) ∨ (n = μ.length ∧ a = p) := fun n a e => by
    rw [List.getElem?_append] at e
    split at e
    · exact .inl ⟨by assumption, e⟩
    · have hn : n - μ.length = 0 := by
        have := (List.getElem?_eq_some_iff.mp e).1
        simp at this; omega
      rw [hn] at e
      simp at e
      exact .inr ⟨by omega, e.symm⟩
  have le : Le F μ F (μ ++ [p]) := ⟨Same.refl F, fun n a e => by
    rw [List.getElem?_append_left (List.getElem?_eq_some_iff.mp e).1]; exact e⟩
  refine ⟨{ ex := h.ex, exz := h.exz, fz := h.fz, len := h.len, slot := fun i x e => (let ⟨v, e1, e2⟩ := h.slot i x e; ⟨v, e1, e2.mono le⟩), own := fun i m q => (let ⟨a, e1, e2, e3⟩ := h.own i m q; ⟨a, e1, e2.grow le e2.f (Same.refl H), e3⟩), dis := h.dis, lm := by simp [h.lm], sto := fun n a m1 e1 e2 => ?_, dst := fun i n a m1 q e1 e2 => ?_, ndm := fun n k a e1 e2 => ?_, tab := h.tab }, le⟩
  · rcases get n a e1 with ⟨hl, e1⟩ | ⟨hn, ha⟩
    · have e2' : c.S[n]? = some m1 := by
        rw [List.getElem?_append_left (by rw [← h.lm]; exact hl)] at e2; exact e2
      have c1 := h.sto n a m1 e1 e2'
      exact c1.grow le c1.f (Same.refl H)
    · subst hn ha
      have e2' : m = m1 := by
        have e2 : (c.S ++ [m])[μ.length]? = some m1 := e2
        rw [h.lm, List.getElem?_append_right (Nat.le_refl _)] at e2
        simpa using e2
      subst e2'
      exact ⟨zp, fun _ => fp, ⟨o, hp, r⟩, fun g => (lkE hm g).elim⟩
  · rcases get n a e2 with ⟨_, e2⟩ | ⟨_, ha⟩
    · exact h.dst i n a m1 q e1 e2
    · subst ha
      exact no i m1 q e1
  · rcases get n a e1 with ⟨_, e3⟩ | ⟨hn, ha⟩ <;> rcases get k a e2 with ⟨_, e4⟩ | ⟨hk, hb⟩
    · exact h.ndm n k a e3 e4
    · subst hb; exact absurd e3 (nm n)
    · subst ha; exact absurd e4 (nm k)
    · omega
/-- an object of the store is written -/
theorem Rel.put (h : Rel K Z F μ c σ H) {n : Nat} {m m' : Cell} (q : c.S[n]? = some m) (hg : m.live) (e : μ[n]? = some p) (r : CellO K F μ p o m') (hm : m'.live := by trivial) :
    Rel K Z F μ ⟨c.r, c.S.set n m'⟩ σ (upd H p o) := by
  have cp := h.sto n p m e q
  have hl : n < c.S.length := (List.getElem?_eq_some_iff.mp q).1
  refine { ex := fun b x eb => ?_, exz := fun b x eb => ?_, fz := h.fz, len := h.len, slot := h.slot, own := fun j m1 q1 => ?_, dis := h.dis, lm := by simpa using h.lm, sto := fun k a m1 e1 e2 => ?_, dst := h.dst, ndm := h.ndm, tab := (let ⟨_, ho, hc⟩ := cp.o; tabs_put h.tab ho (hc.noTab hg)) }
  · have : b ≠ p := fun z => by subst z; rw [cp.f hg] at eb; cases eb
    rw [upd_ne this]; exact h.ex b x eb
  · have : b ≠ p := fun z => by subst z; rw [cp.z] at eb; cases eb
    rw [upd_ne this]; exact h.exz b x eb
  · obtain ⟨a, e1, c1, g1⟩ := h.own j m1 q1
    have : a ≠ p := fun z => by subst z; exact h.dst j n a m1 q1 e1 e
    exact ⟨a, e1, ⟨c1.z, c1.f, let ⟨u, e2, e3⟩ := c1.o; ⟨u, by rw [upd_ne this]; exact e2, e3⟩, fun g => by rw [upd_ne this]; exact c1.l g⟩, g1⟩
  · by_cases hk : k = n
    · subst hk
      rw [e] at e1; cases e1
      have e2 : (c.S.set k m')[k]? = some m1 := e2
      rw [List.getElem?_set_self hl] at e2
      cases e2
      exact ⟨cp.z, fun _ => cp.f hg, ⟨o, upd_same, r⟩, fun g => (lkE hm g).elim⟩
    · have e2 : (c.S.set n m')[k]? = some m1 := e2
      rw [List.getElem?_set_ne (Ne.symm hk)] at e2
      have c1 := h.sto k a m1 e1 e2
      have : a ≠ p := fun z => by subst z; exact hk (h.ndm k n a e1 e)
      exact ⟨c1.z, c1.f, let ⟨u, e2, e3⟩ := c1.o; ⟨u, by rw [upd_ne this]; exact e2, e3⟩, fun g => by rw [upd_ne this]; exact c1.l g⟩
end
end My

set_option Elab.async false
set_option linter.all false
set_option maxRecDepth 100000
set_option maxHeartbeats 4000000
/-! F2: what a piece of a text evaluates to, as a plain function of the image. -/
namespace My
open PySem L2
variable [TabEnv]

omit [TabEnv] in
def M.bind {α β : Type} (m : M α) (f : α → M β) : M β := fun c => match m c with
  | .ok a c' => f a c'
  | .ex e c' => .ex e c'
  | .no => .no
omit [TabEnv] in
def M.pure {α : Type} (a : α) : M α := fun c => .ok a c
omit [TabEnv] in
def M.no {α : Type} : M α := fun _ => .no

omit [TabEnv] in
/-- an operand: data, or the object of a slot -/
inductive O where
  | d (x : D)
  | sl (i : Nat)
omit [TabEnv] in
inductive RepO (K : PySem.W.Frag) (F : Hp) (μ : List Addr) (σ : St) : V → O → Prop
  | d {v : V} {x : D} : Rep K F μ v x → RepO K F μ σ v (.d x)
  | sl {v : V} {i : Nat} : σ[i]? = some (some v) → RepO K F μ σ v (.sl i)
omit [TabEnv] in
theorem RepO.mono {K : PySem.W.Frag} {F F' : Hp} {μ μ' : List Addr} {σ : St} {v : V} {o : O} (le : Le F μ F' μ') (h : RepO K F μ σ v o) : RepO K F' μ' σ v o := by
  cases h with
  | d h => exact .d (h.mono le)
  | sl h => exact .sl h
omit [TabEnv] in
inductive RepX (K : PySem.W.Frag) (F : Hp) (μ : List Addr) : Value → Option Addr → Exn → Prop
  | none {cls : Value} : RepX K F μ cls none ⟨cls, none⟩
  | some {cls : Value} {d : Addr} {f : Str} {v : V} {x : D} : F d = some (.xd [(f, v)]) → Rep K F μ v x → RepX K F μ cls (some d) ⟨cls, some (f, x)⟩

/-- what is wanted behind an expression -/
def Post (K : PySem.W.Frag) (Z F : Hp) (μ : List Addr) (σ : St) (W : WX) {α : Type} (r : R α) (P : α → Stt → Hp → List Addr → Hp → Prop) : Prop := match r with
  | .ok a c => ∀ F' μ' H', Le F μ F' μ' → Rel K Z F' μ' c σ H' → P a c F' μ' H'
  | .ex e c => ∀ cls od F' μ' H', Le F μ F' μ' → Rel K Z F' μ' c σ H' → RepX K F' μ' cls od e → W cls od σ H'
  | .no => False
section
variable {K : PySem.W.Frag} {Z F F' : Hp} {μ μ' : List Addr} {σ : St} {W : WX} {α β : Type}
theorem Post.le {r : R α} {P : α → Stt → Hp → List Addr → Hp → Prop} (le : Le F μ F' μ') (h : Post K Z F μ σ W r P) : Post K Z F' μ' σ W r P := by
  cases r with
  | ok a c => exact fun F2 μ2 H2 l r => h F2 μ2 H2 (le.trans l) r
  | ex e c => exact fun cls od F2 μ2 H2 l r x => h cls od F2 μ2 H2 (le.trans l) r x
  | no => exact h
theorem Post.imp {r : R α} {P P' : α → Stt → Hp → List Addr → Hp → Prop} (h : Post K Z F μ σ W r P) (hp : ∀ a c F' μ' H', Le F μ F' μ' → Rel K Z F' μ' c σ H' → P a c F' μ' H' → P' a c F' μ' H') : Post K Z F μ σ W r P' := by
  cases r with
  | ok a c => exact fun F2 μ2 H2 l r => hp a c F2 μ2 H2 l r (h F2 μ2 H2 l r)
  | ex e c => exact h
  | no => exact h
/-- behind the first of two -/
theorem Post.bind {m : M α} {f : α → M β} {c : Stt} {P : β → Stt → Hp → List Addr → Hp → Prop} (h : Post K Z F μ σ W (M.bind m f c) P) :
    Post K Z F μ σ W (m c) (fun a c' F' μ' H' => Post K Z F' μ' σ W (f a c') P) := by
  unfold M.bind at h
  cases e : m c with
  | ok a c' => rw [e] at h; exact fun F2 μ2 H2 l r => Post.le l h
  | ex x c' => rw [e] at h; exact h
  | no => rw [e] at h; exact h
end

def EvE (K : PySem.W.Frag) (W : WX) (te : TE) (de : M O) : Prop := ∀ (Z F : Hp) (μ : List Addr) (c : Stt) (σ : St) (H : Hp) (Q : VK), Rel K Z F μ c σ H →
  Post K Z F μ σ W (de c) (fun o _ F' μ' H' => ∀ v, RepO K F' μ' σ v o → Q v H') → te σ H Q
def EvD (K : PySem.W.Frag) (W : WX) (te : TE) (de : M D) : Prop := ∀ (Z F : Hp) (μ : List Addr) (c : Stt) (σ : St) (H : Hp) (Q : VK), Rel K Z F μ c σ H →
  Post K Z F μ σ W (de c) (fun x _ F' μ' H' => ∀ v, Rep K F' μ' v x → Q v H') → te σ H Q
omit [TabEnv] in
/-- nobody's object -/
structure Nob (Z F : Hp) (μ : List Addr) (c : Stt) (σ : St) (p : Addr) : Prop where
  f : F p = none
  z : Z p = none
  no : ∀ (i : Nat) (m : Cell), c.r[i]? = some (.own m) → σ[i]? ≠ some (some (.ref p))
  nm : ∀ (k : Nat), μ[k]? ≠ some p
/-- a new list that is nobody's -/
def EvN (K : PySem.W.Frag) (W : WX) (te : TE) (dn : M (List D)) : Prop := ∀ (Z F : Hp) (μ : List Addr) (c : Stt) (σ : St) (H : Hp) (Q : VK), Rel K Z F μ c σ H →
  Post K Z F μ σ W (dn c) (fun ds c' F' μ' H' => ∀ p vs, H' p = some (.lst vs) → Nob Z F' μ' c' σ p → Reps K F' μ' vs ds → Q (.ref p) H') → te σ H Q
def EvT (K : PySem.W.Frag) (W : WX) (tt : TT) (dt : M Bool) : Prop := ∀ (Z F : Hp) (μ : List Addr) (c : Stt) (σ : St) (H : Hp) (Q : Bool → Hp → Prop), Rel K Z F μ c σ H →
  Post K Z F μ σ W (dt c) (fun b _ _ _ H' => Q b H') → tt σ H Q
def EvA (K : PySem.W.Frag) (W : WX) (ta : TA) (da : M (List D)) : Prop := ∀ (Z F : Hp) (μ : List Addr) (c : Stt) (σ : St) (H : Hp) (Q : List V → Hp → Prop), Rel K Z F μ c σ H →
  Post K Z F μ σ W (da c) (fun ds _ F' μ' H' => ∀ vs, Reps K F' μ' vs ds → Q vs H') → ta σ H Q

omit [TabEnv] in
/-- a list's, a tuple's items -/
def seqD (c : Stt) : O → Option (List D)
  | .d (.lst ds) => some ds
  | .d (.scr ds) => some ds
  | .d (.tup ds) => some ds
  | .d (.loc n) => match c.S[n]? with
    | some (.lst ds) => some ds
    | _ => none
  | .sl i => match c.r[i]? with
    | some (.own (.lst ds)) => some ds
    | some (.d (.lst ds)) => some ds
    | _ => none
  | _ => none
section
variable {K : PySem.W.Frag} {Z F F' : Hp} {μ μ' : List Addr} {c : Stt} {σ : St} {H H' : Hp} {W : WX}
theorem Rel.nob {p : Addr} (h : Rel K Z F μ c σ H) (n : H p = none) : Nob Z F μ c σ p := ⟨h.freeF n, h.freeZ n, (h.nobody n).1, (h.nobody n).2⟩
theorem seq_at {v : V} {o : O} {ds : List D} (h : Rel K Z F μ c σ H) (r : RepO K F μ σ v o) (e : seqD c o = some ds) : ∃ a vs, v = .ref a ∧ (SqL K H a vs ∨ SqT K H a vs) ∧ Reps K F μ vs ds := by
  unfold seqD at e
  cases r with
  | d r =>
    cases r with
    | v x => cases e
    | tup hs r => cases e; exact ⟨_, _, rfl, .inr (Same.seqT h.ex hs), r⟩
    | lst hs r => cases e; exact ⟨_, _, rfl, .inl (.of (h.ex _ _ hs)), r⟩
    | scr hs r => cases e; exact ⟨_, _, rfl, .inl (h.ex.seq hs), r⟩
    | dct _ _ _ => cases e
    | ins _ _ _ => cases e
    | exn0 => cases e
    | exn1 _ _ => cases e
    | exm _ _ _ => cases e
    | tset _ => cases e
    | fn _ _ _ => cases e
    | @loc n a hn =>
      dsimp only at e
      cases q : c.S[n]? with
      | none => rw [q] at e; cases e
      | some m =>
        rw [q] at e
        cases m with
        | lst es =>
          cases e
          obtain ⟨_, _, ⟨u, e1, e2⟩, _⟩ := h.sto _ _ _ hn q
          cases e2 with
          | lst r => exact ⟨_, _, rfl, .inl (.of e1), r⟩
        | dct _ => cases e
        | ins _ _ => cases e
        | lck _ => cases e
        | nd _ _ => cases e
        | hid _ => cases e
        | gone => cases e
  | @sl i hs =>
    dsimp only at e
    cases q : c.r[i]? with
    | none => rw [q] at e; cases e
    | some x =>
      rw [q] at e
      cases x with
      | no => cases e
      | d x =>
        cases x with
        | lst es =>
          cases e
          obtain ⟨v', e1, e2⟩ := h.slot i _ q
          rw [hs] at e1; cases e1
          cases e2 with
          | lst hh r => exact ⟨_, _, rfl, .inl (.of (h.ex _ _ hh)), r⟩
        | _ => cases e
      | own m =>
        cases m with
        | lst es =>
          cases e
          obtain ⟨a, e1, ⟨_, _, ⟨u, e2, e3⟩, _⟩, _⟩ := h.own i _ q
          rw [hs] at e1; cases e1
          cases e3 with
          | lst r => exact ⟨_, _, rfl, .inl (.of e2), r⟩
        | _ => cases e
omit [TabEnv] in
/-- a list that is tracked as a list -/
def lstD (c : Stt) : O → Option (List D)
  | .d (.lst ds) => some ds
  | .d (.loc n) => match c.S[n]? with
    | some (.lst ds) => some ds
    | _ => none
  | .sl i => match c.r[i]? with
    | some (.own (.lst ds)) => some ds
    | some (.d (.lst ds)) => some ds
    | _ => none
  | _ => none
theorem lst_at {v : V} {o : O} {ds : List D} (h : Rel K Z F μ c σ H) (r : RepO K F μ σ v o) (e : lstD c o = some ds) : ∃ a vs, v = .ref a ∧ H a = some (.lst vs) ∧ Reps K F μ vs ds := by
  unfold lstD at e
  cases r with
  | d r =>
    cases r with
    | v x => cases e
    | tup hs r => cases e
    | lst hs r => cases e; exact ⟨_, _, rfl, h.ex _ _ hs, r⟩
    | scr hs r => cases e
    | dct _ _ _ => cases e
    | ins _ _ _ => cases e
    | exn0 => cases e
    | exn1 _ _ => cases e
    | exm _ _ _ => cases e
    | tset _ => cases e
    | fn _ _ _ => cases e
    | @loc n a hn =>
      dsimp only at e
      cases q : c.S[n]? with
      | none => rw [q] at e; cases e
      | some m =>
        rw [q] at e
        cases m with
        | lst es =>
          cases e
          obtain ⟨_, _, ⟨u, e1, e2⟩, _⟩ := h.sto _ _ _ hn q
          cases e2 with
          | lst r => exact ⟨_, _, rfl, e1, r⟩
        | _ => cases e
  | @sl i hs =>
    dsimp only at e
    cases q : c.r[i]? with
    | none => rw [q] at e; cases e
    | some x =>
      rw [q] at e
      cases x with
      | no => cases e
      | d x =>
        cases x with
        | lst es =>
          cases e
          obtain ⟨v', e1, e2⟩ := h.slot i _ q
          rw [hs] at e1; cases e1
          cases e2 with
          | lst hh r => exact ⟨_, _, rfl, h.ex _ _ hh, r⟩
        | _ => cases e
      | own m =>
        cases m with
        | lst es =>
          cases e
          obtain ⟨a, e1, ⟨_, _, ⟨u, e2, e3⟩, _⟩, _⟩ := h.own i _ q
          rw [hs] at e1; cases e1
          cases e3 with
          | lst r => exact ⟨_, _, rfl, e2, r⟩
        | _ => cases e
omit [TabEnv] in
/-- a tuple's items -/
def tupD : O → Option (List D)
  | .d (.tup ds) => some ds
  | _ => none
theorem tup_at {v : V} {o : O} {ds : List D} (h : Rel K Z F μ c σ H) (r : RepO K F μ σ v o) (e : tupD o = some ds) : ∃ a vs, v = .ref a ∧ SqT K H a vs ∧ Reps K F μ vs ds := by
  unfold tupD at e
  cases r with
  | d r =>
    cases r with
    | tup hs r => cases e; exact ⟨_, _, rfl, Same.seqT h.ex hs, r⟩
    | _ => cases e
  | sl hs => cases e

/-! ### the object of a slot stands for good -/
omit [TabEnv] in
def frz : O → M D
  | .d x => fun c => .ok x c
  | .sl i => fun c => match c.r[i]? with
    | some (.own (.lst ds)) => .ok (.lst ds) ⟨c.r.set i (.d (.lst ds)), c.S⟩
    | some (.own (.dct ds)) => .ok (.dct ds) ⟨c.r.set i (.d (.dct ds)), c.S⟩
    | some (.own (.ins C ds)) => .ok (.ins C ds) ⟨c.r.set i (.d (.ins C ds)), c.S⟩
    | some (.d x) => .ok x c
    | _ => .no
theorem frz_ok {v : V} {o : O} {P : D → Stt → Hp → List Addr → Hp → Prop} (h : Rel K Z F μ c σ H) (r : RepO K F μ σ v o) (p : Post K Z F μ σ W (frz o c) P) :
    ∃ x c' F' , Le F μ F' μ ∧ Rel K Z F' μ c' σ H ∧ Rep K F' μ v x ∧ P x c' F' μ H := by
  cases r with
  | d r => exact ⟨_, _, F, Le.refl F μ, h, r, p F μ H (Le.refl F μ) h⟩
  | @sl i hs =>
    unfold frz at p
    dsimp only at p
    cases q : c.r[i]? with
    | none => rw [q] at p; exact p.elim
    | some x =>
      rw [q] at p
      cases x with
      | no => exact p.elim
      | d x =>
        obtain ⟨v', e1, e2⟩ := h.slot i _ q
        rw [hs] at e1; cases e1
        exact ⟨_, _, F, Le.refl F μ, h, e2, p F μ H (Le.refl F μ) h⟩
      | own m =>
        obtain ⟨a, e1, ⟨_, hf, ⟨u, e2, e3⟩, _⟩, hg⟩ := h.own i _ q
        rw [hs] at e1; cases e1
        have le : Le F μ (upd F a u) μ := ⟨same_new (hf hg), fun _ _ h => h⟩
        cases e3 with
        | lst r =>
          have r' : Rep K (upd F a (.lst _)) μ (.ref a) (.lst _) := .lst upd_same (r.mono le)
          obtain ⟨h1, l1⟩ := h.freeze q hs e2 r'
          exact ⟨_, _, _, l1, h1, r', p _ _ _ l1 h1⟩
        | dct k r =>
          have r' : Rep K (upd F a (.dK _)) μ (.ref a) (.dct _) := .dct upd_same k (r.mono le)
          obtain ⟨h1, l1⟩ := h.freeze q hs e2 r'
          exact ⟨_, _, _, l1, h1, r', p _ _ _ l1 h1⟩
        | ins k r =>
          have r' : Rep K (upd F a (.ins _ _ _)) μ (.ref a) (.ins _ _) := .ins upd_same k (r.mono le)
          obtain ⟨h1, l1⟩ := h.freeze q hs e2 r'
          exact ⟨_, _, _, l1, h1, r', p _ _ _ l1 h1⟩
        | lck k r => exact p.elim
        | nd k r => exact p.elim
        | hid _ => exact p.elim
        | gone => exact p.elim
omit [TabEnv] in
def dD (m : M O) : M D := M.bind m frz
theorem EvE.d {te : TE} {de : M O} (h : EvE K W te de) : EvD K W te (dD de) := fun Z F μ c σ H Q R p =>
  h Z F μ c σ H Q R (p.bind.imp fun o c' F' μ' H' le R' q v r => by
    obtain ⟨x, c2, F2, le2, R2, r2, k⟩ := frz_ok R' r q
    exact k v r2)
omit [TabEnv] in
def okD (m : M D) : M O := M.bind m fun x => M.pure (.d x)
theorem EvD.e {te : TE} {de : M D} (h : EvD K W te de) : EvE K W te (okD de) := fun Z F μ c σ H Q R p =>
  h Z F μ c σ H Q R (p.bind.imp fun x c' F' μ' H' le R' q v r => q F' μ' H' (Le.refl _ _) R' v (.d r))
omit [TabEnv] in
def okN (m : M (List D)) : M O := M.bind m fun ds => M.pure (.d (.lst ds))
theorem EvN.e {te : TE} {dn : M (List D)} (h : EvN K W te dn) : EvE K W te (okN dn) := fun Z F μ c σ H Q R p =>
  h Z F μ c σ H Q R (p.bind.imp fun ds c' F' μ' H' le R' q a vs hp n r => by
    obtain ⟨R2, l2⟩ := R'.fix hp n.f n.z n.no (fun k m e _ => absurd e (n.nm k))
    exact q _ _ _ l2 R2 (.ref a) (.d (.lst upd_same (r.mono l2))))
end
end My

set_option Elab.async false
set_option linter.all false
set_option maxRecDepth 100000
set_option maxHeartbeats 4000000
/-! F3: the rules for expressions. -/
namespace My
open PySem L2
variable [TabEnv]

structure ED (X : Cx) (W : WX) (e : Expr) (t : TE) (d : M O) : Prop where
  pe : PE X e t
  ev : EvE X.K W t d
structure DD (X : Cx) (W : WX) (e : Expr) (t : TE) (d : M D) : Prop where
  pe : PE X e t
  ev : EvD X.K W t d
structure EN (X : Cx) (W : WX) (e : Expr) (t : TE) (d : M (List D)) : Prop where
  pe : PE X e t
  ev : EvN X.K W t d
structure TD (X : Cx) (W : WX) (e : Expr) (t : TT) (d : M Bool) : Prop where
  pt : PT X e t
  ev : EvT X.K W t d
structure WD (X : Cx) (W : WX) (e : Expr) (t : TT) (d : M Bool) : Prop where
  pw : PW X e t
  ev : EvT X.K W t d
structure AD (X : Cx) (W : WX) (es : List Expr) (t : TA) (d : M (List D)) : Prop where
  pa : PA X es t
  ev : EvA X.K W t d

section
variable {X : Cx} {W : WX} {a b : Expr} {t ta tb : TE} {pos : Pos}
theorem ED.d {e : Expr} {d : M O} (h : ED X W e t d) : DD X W e t (dD d) := ⟨h.pe, h.ev.d⟩
theorem DD.e {e : Expr} {d : M D} (h : DD X W e t d) : ED X W e t (okD d) := ⟨h.pe, h.ev.e⟩
theorem EN.e {e : Expr} {d : M (List D)} (h : EN X W e t d) : ED X W e t (okN d) := ⟨h.pe, h.ev.e⟩

/-! ### names and constants -/
omit [TabEnv] in
def dVar (i : Nat) : M O := fun c => match c.r[i]? with
  | some (.d x) => .ok (.d x) c
  | some (.own _) => .ok (.sl i) c
  | _ => .no
theorem ed_var (i : Nat) {x : Str} (hN : X.N[i]? = some x := by rfl) (hv : Vis X.env.scope x := by first | exact Or.inl rfl | exact Or.inr (Or.inl rfl) | exact Or.inr (Or.inr rfl)) (hd : (x == ("__debug__" : Str)) = false := by decide)
    (hcd : (x == ("__classdict__" : Str)) = false := by decide) : ED X W (.Name x pos) (tVar i) (dVar i) := by
  refine ⟨pe_var hN hv hd hcd, fun Z F μ c σ H Q R p => ?_⟩
  unfold dVar at p
  cases q : c.r[i]? with
  | none => rw [q] at p; exact p.elim
  | some x =>
    rw [q] at p
    cases x with
    | no => exact p.elim
    | d x =>
      obtain ⟨v, e1, e2⟩ := R.slot i x q
      exact ⟨v, e1, p F μ H (Le.refl _ _) R v (.d e2)⟩
    | own m =>
      obtain ⟨v, e1, _⟩ := R.own i m q
      exact ⟨.ref v, e1, p F μ H (Le.refl _ _) R _ (.sl e1)⟩
omit [TabEnv] in
def dC (v : V) : M O := fun c => .ok (.d (.v v)) c
theorem ev_c {K : PySem.W.Frag} {v : V} : EvE K W (tC v) (dC v) := fun Z F μ c σ H Q R p => p F μ H (Le.refl _ _) R v (.d (.v v))
theorem ed_int {i : Int} {j : Nat} : ED X W (.Constant (.int i) j pos) (tC (.int i)) (dC (.int i)) := ⟨pe_int, ev_c⟩
theorem ed_bl {b : Bool} {j : Nat} : ED X W (.Constant (.bool b) j pos) (tC (.bl b)) (dC (.bl b)) := ⟨pe_bl, ev_c⟩
theorem ed_non {j : Nat} : ED X W (.Constant .none j pos) (tC .non) (dC .non) := ⟨pe_non, ev_c⟩
theorem ed_str {x : Str} {j : Nat} : ED X W (.Constant (.str x) j pos) (tC (.str x)) (dC (.str x)) := ⟨pe_str, ev_c⟩
omit [TabEnv] in
/-- a module's constant -/
def dK (x : D) : M O := fun c => .ok (.d x) c
/-! ### operations of two operands -/
omit [TabEnv] in
def dOp (g : O → O → M D) (da db : M O) : M D := M.bind da fun x => M.bind db fun y => g x y
def R2S (K : PySem.W.Frag) (W : WX) (r : R2) (g : O → O → M D) : Prop := ∀ (Z F : Hp) (μ : List Addr) (c : Stt) (σ : St) (H : Hp) (Q : VK) (x y : V) (a b : O), Rel K Z F μ c σ H → RepO K F μ σ x a → RepO K F μ σ y b →
  Post K Z F μ σ W (g a b c) (fun d _ F' μ' H' => ∀ v, Rep K F' μ' v d → Q v H') → r x y H Q
theorem ev_op {K : PySem.W.Frag} {r : R2} {g : O → O → M D} {da db : M O} (hr : R2S K W r g) (ha : EvE K W ta da) (hb : EvE K W tb db) : EvD K W (tOp r ta tb) (dOp g da db) := fun Z F μ c σ H Q R p =>
  ha Z F μ c σ H _ R (p.bind.imp fun o c1 F1 μ1 H1 l1 R1 p1 v1 r1 =>
    hb Z F1 μ1 c1 σ H1 _ R1 (p1.bind.imp fun o2 c2 F2 μ2 H2 l2 R2 p2 v2 r2 => hr Z F2 μ2 c2 σ H2 Q v1 v2 o o2 R2 (r1.mono l2) r2 p2))
theorem dd_op {op : Operator} {r : R2} {g : O → O → M D} {da db : M O} (ho : OpR X (binaryOp op) r) (hr : R2S X.K W r g) (ha : ED X W a ta da) (hb : ED X W b tb db) : DD X W (.BinOp a op b pos) (tOp r ta tb) (dOp g da db) :=
  ⟨pe_op ho ha.pe hb.pe, ev_op hr ha.ev hb.ev⟩
omit [TabEnv] in
def gOr (g g' : O → O → M D) : O → O → M D := fun a b c => match g a b c with
  | .no => g' a b c
  | x => x
theorem R2S.or {K : PySem.W.Frag} {r r' : R2} {g g' : O → O → M D} (h : R2S K W r g) (h' : R2S K W r' g') : R2S K W (fun x y H Q => r x y H Q ∨ r' x y H Q) (gOr g g') := fun Z F μ c σ H Q x y a b R rx ry p => by
  unfold gOr at p
  cases e : g a b c with
  | no => rw [e] at p; exact .inr (h' Z F μ c σ H Q x y a b R rx ry p)
  | ok _ _ => rw [e] at p; exact .inl (h Z F μ c σ H Q x y a b R rx ry (by rw [e]; exact p))
  | ex _ _ => rw [e] at p; exact .inl (h Z F μ c σ H Q x y a b R rx ry (by rw [e]; exact p))
omit [TabEnv] in
/-- two ints -/
def gI (f : Int → Int → Option V) : O → O → M D := fun a b c => match a, b with
  | .d (.v (.int i)), .d (.v (.int j)) => match f i j with
    | some v => .ok (.v v) c
    | none => .no
  | _, _ => .no
theorem r2_int {K : PySem.W.Frag} {r : R2} {f : Int → Int → Option V} (h : ∀ i j v H Q, f i j = some v → Q v H → r (.int i) (.int j) H Q) : R2S K W r (gI f) := fun Z F μ c σ H Q x y a b R rx ry p => by
  unfold gI at p
  split at p
  · next i j =>
    cases rx with
    | d rx =>
      cases rx
      cases ry with
      | d ry =>
        cases ry
        cases e : f i j with
        | none => rw [e] at p; exact p.elim
        | some v => rw [e] at p; exact h i j v H Q e (p F μ H (Le.refl _ _) R v (.v v))
  · exact p.elim
omit [TabEnv] in
/-- two texts -/
def gS (f : Str → Str → Option V) : O → O → M D := fun a b c => match a, b with
  | .d (.v (.str i)), .d (.v (.str j)) => match f i j with
    | some v => .ok (.v v) c
    | none => .no
  | _, _ => .no
theorem r2_str {K : PySem.W.Frag} {r : R2} {f : Str → Str → Option V} (h : ∀ i j v H Q, f i j = some v → Q v H → r (.str i) (.str j) H Q) : R2S K W r (gS f) := fun Z F μ c σ H Q x y a b R rx ry p => by
  unfold gS at p
  split at p
  · next i j =>
    cases rx with
    | d rx =>
      cases rx
      cases ry with
      | d ry =>
        cases ry
        cases e : f i j with
        | none => rw [e] at p; exact p.elim
        | some v => rw [e] at p; exact h i j v H Q e (p F μ H (Le.refl _ _) R v (.v v))
  · exact p.elim
omit [TabEnv] in
def gCat : O → O → M D := fun a b c => match lstD c a, lstD c b with
  | some ds, some es => if ds.length + es.length ≤ 1000000 then .ok (.lst (ds ++ es)) c else .no
  | _, _ => .no
omit [TabEnv] in
theorem small6 {n : Nat} (h : n ≤ 1000000) : n ≤ sizeLine := Nat.le_trans h (by decide)
theorem r2_cat {K : PySem.W.Frag} : R2S K W rCat gCat := fun Z F μ c σ H Q x y a b R rx ry p => by
  unfold gCat at p
  split at p
  · next ds es e1 e2 =>
    obtain ⟨l, vs, rfl, h1, q1⟩ := lst_at R rx e1
    obtain ⟨m, ws, rfl, h2, q2⟩ := lst_at R ry e2
    split at p
    · next hz =>
      refine ⟨l, m, vs, ws, rfl, rfl, h1, h2, small6 (by rw [q1.length, q2.length]; exact hz), fun t ht => ?_⟩
      obtain ⟨R2, l2⟩ := R.new (o := .lst (vs ++ ws)) ht
      exact p _ _ _ l2 R2 _ (.lst upd_same ((q1.append q2).mono l2))
    · exact p.elim
  · exact p.elim
omit [TabEnv] in
def gAdd : O → O → M D := gOr (gI fun i j => some (.int (i + j))) (gOr (gS fun x y => if x.length + y.length ≤ 1000000 then some (.str (x ++ y)) else none) gCat)
omit [TabEnv] in
def rAddA : R2 := fun x y H Q => rI0 (fun i j => .int (i + j)) x y H Q ∨ ((∃ i j, x = .str i ∧ y = .str j ∧ i.length + j.length ≤ sizeLine ∧ Q (.str (i ++ j)) H) ∨ rCat x y H Q)
theorem dd_add {da db : M O} (ha : ED X W a ta da) (hb : ED X W b tb db) : DD X W (.BinOp a .Add b pos) (tOp rAddA ta tb) (dOp gAdd da db) :=
  dd_op (OpR.or op_add (OpR.or op_add_str op_cat)) (R2S.or (r2_int fun i j v H Q e q => ⟨i, j, rfl, rfl, by cases e; exact q⟩) (R2S.or (r2_str fun i j v H Q e q => by
    split at e
    · next hz => cases e; exact ⟨i, j, rfl, rfl, small6 hz, q⟩
    · cases e) r2_cat)) ha hb
omit [TabEnv] in
def gSubI : O → O → M D := gI fun i j => some (.int (i - j))
omit [TabEnv] in
def rSubA : R2 := rI0 fun i j => .int (i - j)
theorem dd_sub {da db : M O} (ha : ED X W a ta da) (hb : ED X W b tb db) : DD X W (.BinOp a .Sub b pos) (tOp rSubA ta tb) (dOp gSubI da db) :=
  dd_op op_sub (r2_int fun i j v H Q e q => ⟨i, j, rfl, rfl, by cases e; exact q⟩) ha hb
omit [TabEnv] in
/-- a product that has room -/
def mulOk (i j : Int) : Prop := CMul i j ∨ CMulW i j
omit [TabEnv] in
instance (i j : Int) : Decidable (mulOk i j) := by
  unfold mulOk CMul CMulW
  infer_instance
omit [TabEnv] in
theorem op_mulA : OpR X (binaryOp .Mult) (rI mulOk fun i j => .int (i * j)) := opI fun _ _ _ _ _ _ _ hc q => PyProof.Rows.mul_int q (by
  rcases hc with h | h
  · exact h.ok
  · exact h.ok)
omit [TabEnv] in
def gRep : O → O → M D := fun a b c => match lstD c a, b with
  | some ds, .d (.v (.int k)) => if -(2 ^ 63) ≤ k ∧ k < 2 ^ 63 ∧ ds.length * k.toNat ≤ 1000000 then .ok (.lst (List.replicate k.toNat ds).flatten) c else .no
  | _, _ => .no
theorem r2_rep {K : PySem.W.Frag} : R2S K W rRep gRep := fun Z F μ c σ H Q x y a b R rx ry p => by
  unfold gRep at p
  split at p
  · next ds k e1 =>
    obtain ⟨l, vs, rfl, h1, q1⟩ := lst_at R rx e1
    cases ry with
    | d ry =>
      cases ry
      split at p
      · next hz =>
        refine ⟨l, k, vs, rfl, rfl, h1, hz.1, hz.2.1, small6 (by rw [q1.length]; exact hz.2.2), fun t ht => ?_⟩
        obtain ⟨R2, l2⟩ := R.new (o := .lst (List.replicate k.toNat vs).flatten) ht
        exact p _ _ _ l2 R2 _ (.lst upd_same ((q1.rep k.toNat).mono l2))
      · exact p.elim
  · exact p.elim
omit [TabEnv] in
def gMul : O → O → M D := gOr (gI fun i j => if mulOk i j then some (.int (i * j)) else none) gRep
omit [TabEnv] in
def rMulA : R2 := fun x y H Q => rI mulOk (fun i j => .int (i * j)) x y H Q ∨ rRep x y H Q
theorem dd_mul {da db : M O} (ha : ED X W a ta da) (hb : ED X W b tb db) : DD X W (.BinOp a .Mult b pos) (tOp rMulA ta tb) (dOp gMul da db) :=
  dd_op (OpR.or op_mulA op_rep) (R2S.or (r2_int fun i j v H Q e q => by
    split at e
    · next hz => cases e; exact ⟨i, j, rfl, rfl, hz, q⟩
    · cases e) r2_rep) ha hb
omit [TabEnv] in
/-- a divisor that is served -/
def divOk (j : Int) : Prop := j ≠ 0 ∧ j.natAbs.log2 < 9000
omit [TabEnv] in
instance (j : Int) : Decidable (divOk j) := by
  unfold divOk
  infer_instance
omit [TabEnv] in
theorem op_fdivA : OpR X (binaryOp .FloorDiv) (rI (fun _ j => divOk j) fun i j => .int (i.fdiv j)) := opI fun i j _ _ _ _ _ hc q =>
  PyProof.Rows.floordiv_int hc.1 q (.inl (PyProof.noPylong_of_log2 hc.2))
omit [TabEnv] in
def gDiv : O → O → M D := gI fun i j => if divOk j then some (.int (i.fdiv j)) else none
omit [TabEnv] in
def rDivA : R2 := rI (fun _ j => divOk j) fun i j => .int (i.fdiv j)
theorem dd_div {da db : M O} (ha : ED X W a ta da) (hb : ED X W b tb db) : DD X W (.BinOp a .FloorDiv b pos) (tOp rDivA ta tb) (dOp gDiv da db) :=
  dd_op op_fdivA (r2_int fun i j v H Q e q => by
    split at e
    · next hz => cases e; exact ⟨i, j, rfl, rfl, hz, q⟩
    · cases e) ha hb
omit [TabEnv] in
def gMod : O → O → M D := gI fun i j => if j ≠ 0 then some (.int (i.fmod j)) else none
omit [TabEnv] in
def rModA : R2 := rI (fun _ j => j ≠ 0) fun i j => .int (i.fmod j)
theorem dd_mod {da db : M O} (ha : ED X W a ta da) (hb : ED X W b tb db) : DD X W (.BinOp a .Mod b pos) (tOp rModA ta tb) (dOp gMod da db) :=
  dd_op op_modN (r2_int fun i j v H Q e q => by
    split at e
    · next hz => cases e; exact ⟨i, j, rfl, rfl, hz, q⟩
    · cases e) ha hb
omit [TabEnv] in
instance (i j : Int) : Decidable (CPow i j) := by
  unfold CPow
  infer_instance
omit [TabEnv] in
def gPow : O → O → M D := gI fun i j => if CPow i j then some (.int (i ^ j.toNat)) else none
omit [TabEnv] in
/-- -a -/
def dNeg (da : M O) : M D := M.bind da fun a c => match a with
  | .d (.v (.int i)) => .ok (.v (.int (-i))) c
  | _ => .no
theorem dd_neg {da : M O} (ha : ED X W a ta da) : DD X W (.UnaryOp .USub a pos) (tUn (rU fun i => .int (-i)) ta) (dNeg da) := by
  refine ⟨pe_un un_neg ha.pe, fun Z F μ c σ H Q R p => ha.ev Z F μ c σ H _ R (p.bind.imp fun o c1 F1 μ1 H1 l1 R1 p1 v1 r1 => ?_)⟩
  split at p1
  · cases r1 with
    | d r => cases r; exact ⟨_, rfl, p1 F1 μ1 H1 (Le.refl _ _) R1 _ (.v _)⟩
  · exact p1.elim

/-! ### items, lengths -/
omit [TabEnv] in
def gIx : O → O → M D := fun a b c => match b with
  | .d (.v (.int i)) => match a with
    | .d (.v (.str x)) => if x.length ≤ 1000000 then match atI x.cps.toList i with
        | some k => .ok (.v (.str ⟨#[k]⟩)) c
        | none => .no
      else .no
    | a => match seqD c a with
      | some ds => match atI ds i with
        | some d => .ok d c
        | none => .no
      | none => .no
  | _ => .no
omit [TabEnv] in
theorem reps_atI {K : PySem.W.Frag} {F : Hp} {μ : List Addr} {vs : List V} {ds : List D} {i : Int} {d : D} (r : Reps K F μ vs ds) (e : atI ds i = some d) : ∃ v, atI vs i = some v ∧ Rep K F μ v d := by
  unfold atI at e ⊢
  rw [r.length]
  cases q : ixN ds.length i with
  | none => rw [q] at e; cases e
  | some j =>
    rw [q] at e
    exact r.get e
theorem r2_ix {K : PySem.W.Frag} : R2S K W (rIx K) gIx := fun Z F μ c σ H Q x y a b R rx ry p => by
  unfold gIx at p
  split at p
  · next i =>
    cases ry with
    | d ry =>
      cases ry
      split at p
      · next z =>
        cases rx with
        | d rx =>
          cases rx
          split at p
          · next hz =>
            split at p
            · next k hk => exact .inr (.inr ⟨z, i, k, rfl, rfl, small6 hz, hk, p F μ H (Le.refl _ _) R _ (.v _)⟩)
            · exact p.elim
          · exact p.elim
      · split at p
        · next ds hs =>
          split at p
          · next d hd =>
            obtain ⟨l, vs, rfl, h1, q1⟩ := seq_at R rx hs
            obtain ⟨v, hv, rv⟩ := reps_atI q1 hd
            rcases h1 with h1 | h1
            · exact .inl ⟨l, vs, i, v, rfl, rfl, h1, hv, p F μ H (Le.refl _ _) R _ rv⟩
            · exact .inr (.inl ⟨l, vs, i, v, rfl, rfl, h1, hv, p F μ H (Le.refl _ _) R _ rv⟩)
          · exact p.elim
        · exact p.elim
  · exact p.elim
theorem dd_ix {K : PySem.W.Frag} {da db : M O} (ha : ED X W a ta da) (hb : ED X W b tb db) (hs : PlainIx b) (hK : X.K = K := by rfl) : DD X W (.Subscript a b pos) (tOp (rIx K) ta tb) (dOp gIx da db) := by
  subst hK
  exact ⟨pe_ix ix_seq ha.pe hb.pe hs, ev_op r2_ix ha.ev hb.ev⟩
/-- a built-in of one operand -/
def C1S (K : PySem.W.Frag) (W : WX) (r : List V → Hp → VK → Prop) (g : O → M D) : Prop := ∀ (Z F : Hp) (μ : List Addr) (c : Stt) (σ : St) (H : Hp) (Q : VK) (x : V) (a : O), Rel K Z F μ c σ H → RepO K F μ σ x a →
  Post K Z F μ σ W (g a c) (fun d _ F' μ' H' => ∀ v, Rep K F' μ' v d → Q v H') → r [x] H Q
theorem ev_c1 {K : PySem.W.Frag} {r : List V → Hp → VK → Prop} {g : O → M D} {da : M O} (hr : C1S K W r g) (ha : EvE K W ta da) : EvD K W (tCB r (tCons ta tNil)) (M.bind da g) := fun Z F μ c σ H Q R p =>
  ha Z F μ c σ H _ R (p.bind.imp fun o c1 F1 μ1 H1 l1 R1 p1 v1 r1 => hr Z F1 μ1 c1 σ H1 Q v1 o R1 r1 p1)
/-- a built-in's rule: of the text's machine, of the image -/
structure B1 (X : Cx) (W : WX) (f : Value) (r : List V → Hp → VK → Prop) (g : O → M D) : Prop where
  c : CallR X f r
  g : C1S X.K W r g
theorem dd_b1 {id : String} {x : Str} {p : Pos} {r : List V → Hp → VK → Prop} {g : O → M D} {da : M O} (hc : B1 X W (.builtin id) r g) (hg : Gl X x) (hm : X.mg x = none) (hv : bootBuiltins x = some (.builtin id)) (ha : ED X W a ta da)
    (hs : starEach [a] X.env = (false, eval a X.env) :: starEach [] X.env := by rfl) (hn : x ≠ "__name__" := by decide) (hdb : (x == ("__debug__" : Str)) = false := by decide)
    (he : starEach [a] X.env = (false, eval a X.env) :: starEach [] X.env := by rfl) (hpl : (backTo pos (starEach [] X.env)).any (·.1) = false := by rfl) :
    DD X W (.Call (.Name x p) [a] [] pos) (tCB r (tCons ta tNil)) (M.bind da g) := ⟨pe_callB hc.c hg hm hv (pa_cons ha.pe pa_nil hs) hn hdb he hpl, ev_c1 hc.g ha.ev⟩
theorem dd_t1 {T : String} {x : Str} {p : Pos} {r : List V → Hp → VK → Prop} {g : O → M D} {da : M O} (hc : B1 X W (.type T) r g) (hg : Gl X x) (hm : X.mg x = none) (hv : bootBuiltins x = some (.type T)) (ha : ED X W a ta da)
    (hs : starEach [a] X.env = (false, eval a X.env) :: starEach [] X.env := by rfl) (hn : x ≠ "__name__" := by decide) (hdb : (x == ("__debug__" : Str)) = false := by decide)
    (he : starEach [a] X.env = (false, eval a X.env) :: starEach [] X.env := by rfl) (hpl : (backTo pos (starEach [] X.env)).any (·.1) = false := by rfl) :
    DD X W (.Call (.Name x p) [a] [] pos) (tCB r (tCons ta tNil)) (M.bind da g) := ⟨pe_callTy hc.c hg hm hv (pa_cons ha.pe pa_nil hs) hn hdb he hpl, ev_c1 hc.g ha.ev⟩
omit [TabEnv] in
def gLen : O → M D := fun a c => match a with
  | .d (.v (.str x)) => if x.length ≤ 1000000 then .ok (.v (.int x.length)) c else .no
  | a => match seqD c a with
    | some ds => .ok (.v (.int ds.length)) c
    | none => .no
theorem c1_len {K : PySem.W.Frag} : C1S K W (fun xs H Q => ∃ x n, xs = [x] ∧ LenV K x H n ∧ Q (.int n) H) gLen := fun Z F μ c σ H Q x a R rx p => by
  unfold gLen at p
  split at p
  · next z =>
    cases rx with
    | d rx =>
      cases rx
      split at p
      · next hz => exact ⟨_, _, rfl, ⟨small6 hz, rfl⟩, p F μ H (Le.refl _ _) R _ (.v _)⟩
      · exact p.elim
  · split at p
    · next ds hs =>
      obtain ⟨l, vs, rfl, h1, q1⟩ := seq_at R rx hs
      refine ⟨_, ds.length, rfl, ?_, p F μ H (Le.refl _ _) R _ (.v _)⟩
      rcases h1 with h1 | h1
      · exact .inl ⟨vs, h1, q1.length.symm⟩
      · exact .inr ⟨vs, h1, q1.length.symm⟩
    · exact p.elim
omit [TabEnv] in
def absZ (i : Int) : Int := if i < 0 then -i else i
omit [TabEnv] in
def gAbs : O → M D := fun a c => match a with
  | .d (.v (.int i)) => .ok (.v (.int (absZ i))) c
  | _ => .no
omit [TabEnv] in
def gInt1 : O → M D := fun a c => match a with
  | .d (.v (.int i)) => .ok (.v (.int i)) c
  | .d (.v (.bl k)) => .ok (.v (.int (if k then 1 else 0))) c
  | _ => .no
omit [TabEnv] in
def rLenA (K : PySem.W.Frag) : List V → Hp → VK → Prop := fun xs H Q => ∃ x n, xs = [x] ∧ LenV K x H n ∧ Q (.int n) H
theorem bLen {K : PySem.W.Frag} (hK : X.K = K := by rfl) : B1 X W (.builtin "len") (rLenA K) gLen := by
  subst hK
  exact ⟨call_len, c1_len⟩
end
end My

set_option Elab.async false
set_option linter.all false
set_option maxRecDepth 100000
set_option maxHeartbeats 4000000
/-! F4: comparisons, tests, displays, calls. -/
namespace My
open PySem L2
variable [TabEnv]

/-! ### == by data -/
omit [TabEnv] in
mutual
def pyD : D → Option PyData
  | .v .non => some .none
  | .v (.bl b) => some (.bool b)
  | .v (.int i) => some (.int i)
  | .v (.str x) => some (.str x)
  | .tup ds => (pyDs ds).map .tuple
  | .lst ds => (pyDs ds).map .list
  | .scr ds => (pyDs ds).map .list
  | _ => none
def pyDs : List D → Option (List PyData)
  | [] => some []
  | d :: ds => match pyD d, pyDs ds with
    | some p, some ps => some (p :: ps)
    | _, _ => none
end
omit [TabEnv] in
/-- an operand as data -/
def pyO (c : Stt) : O → Option PyData
  | .d (.loc n) => match c.S[n]? with
    | some (.lst ds) => (pyDs ds).map .list
    | _ => none
  | .d x => pyD x
  | .sl i => match c.r[i]? with
    | some (.own (.lst ds)) => (pyDs ds).map .list
    | some (.d (.lst ds)) => (pyDs ds).map .list
    | _ => none
section
variable {K : PySem.W.Frag} {Z F : Hp} {μ : List Addr} {c : Stt} {σ : St} {H : Hp} {W : WX}
omit [TabEnv] in
mutual
theorem dp_of (ex : Same F H) : ∀ {d : D} {v : V} {p : PyData}, Rep K F μ v d → pyD d = some p → Dp K H v p
  | _, _, _, Rep.v x, e => by
    cases x <;> unfold pyD at e <;> cases e <;> constructor
  | _, _, _, .tup (ds := ds) h r, e => by
    unfold pyD at e
    cases q : pyDs ds with
    | none => rw [q] at e; cases e
    | some ps => rw [q] at e; cases e; exact .tup (Same.seqT ex h) (dps_of ex r q)
  | _, _, _, .lst (ds := ds) h r, e => by
    unfold pyD at e
    cases q : pyDs ds with
    | none => rw [q] at e; cases e
    | some ps => rw [q] at e; cases e; exact .lst (.of (ex _ _ h)) (dps_of ex r q)
  | _, _, _, .scr (ds := ds) h r, e => by
    unfold pyD at e
    cases q : pyDs ds with
    | none => rw [q] at e; cases e
    | some ps => rw [q] at e; cases e; exact .lst (ex.seq h) (dps_of ex r q)
  | _, _, _, .dct _ _ _, e => by unfold pyD at e; cases e
  | _, _, _, .ins _ _ _, e => by unfold pyD at e; cases e
  | _, _, _, .loc _, e => by unfold pyD at e; cases e
theorem dps_of (ex : Same F H) : ∀ {ds : List D} {vs : List V} {ps : List PyData}, Reps K F μ vs ds → pyDs ds = some ps → DpAll K H vs ps
  | _, _, _, .nil, e => by unfold pyDs at e; cases e; exact .nil
  | _, _, _, .cons (d := d) (ds := ds) h r, e => by
    unfold pyDs at e
    cases q : pyD d with
    | none => rw [q] at e; cases e
    | some p =>
      rw [q] at e
      cases q2 : pyDs ds with
      | none => rw [q2] at e; cases e
      | some ps => rw [q2] at e; cases e; exact .cons (dp_of ex h q) (dps_of ex r q2)
end
theorem dpO_of {o : O} {v : V} {p : PyData} (R : Rel K Z F μ c σ H) (r : RepO K F μ σ v o) (e : pyO c o = some p) : Dp K H v p := by
  have lists : ∀ {ds : List D}, lstD c o = some ds → (pyDs ds).map PyData.list = some p → Dp K H v p := fun {ds} h1 h2 => by
    obtain ⟨a, vs, rfl, h3, q⟩ := lst_at R r h1
    cases q2 : pyDs ds with
    | none => rw [q2] at h2; cases h2
    | some ps => rw [q2] at h2; cases h2; exact .lst (.of h3) (dps_of R.ex q q2)
  cases o with
  | d x =>
    cases r with
    | d r =>
      cases x with
      | loc n =>
        unfold pyO at e
        dsimp only at e
        split at e
        · next ds hs => exact lists (by unfold lstD; dsimp only; rw [hs]) e
        · cases e
      | _ => exact dp_of R.ex r e
  | sl i =>
    unfold pyO at e
    dsimp only at e
    split at e
    · next ds hs => exact lists (by unfold lstD; dsimp only; rw [hs]) e
    · next ds hs => exact lists (by unfold lstD; dsimp only; rw [hs]) e
    · cases e
omit [TabEnv] in
mutual
theorem pyD_plain : ∀ {d : D} {p : PyData}, pyD d = some p → p.plain = true
  | .v x, p, e => by
    cases x <;> unfold pyD at e <;> cases e <;> rfl
  | .tup ds, p, e => by
    unfold pyD at e
    cases q : pyDs ds with
    | none => rw [q] at e; cases e
    | some ps =>
      rw [q] at e
      cases e
      show PyData.plain (.tuple ps) = true
      unfold PyData.plain
      exact pyDs_plain q
  | .lst ds, p, e => by
    unfold pyD at e
    cases q : pyDs ds with
    | none => rw [q] at e; cases e
    | some ps =>
      rw [q] at e
      cases e
      show PyData.plain (.list ps) = true
      unfold PyData.plain
      exact pyDs_plain q
  | .scr ds, p, e => by
    unfold pyD at e
    cases q : pyDs ds with
    | none => rw [q] at e; cases e
    | some ps =>
      rw [q] at e
      cases e
      show PyData.plain (.list ps) = true
      unfold PyData.plain
      exact pyDs_plain q
  | .dct _, _, e => by unfold pyD at e; cases e
  | .ins _ _, _, e => by unfold pyD at e; cases e
  | .loc _, _, e => by unfold pyD at e; cases e
theorem pyDs_plain : ∀ {ds : List D} {ps : List PyData}, pyDs ds = some ps → PyData.plainAll ps = true
  | [], ps, e => by unfold pyDs at e; cases e; rfl
  | d :: ds, ps, e => by
    unfold pyDs at e
    cases q : pyD d with
    | none => rw [q] at e; cases e
    | some p =>
      rw [q] at e
      cases q2 : pyDs ds with
      | none => rw [q2] at e; cases e
      | some ps =>
        rw [q2] at e
        cases e
        show (p.plain && PyData.plainAll ps) = true
        rw [pyD_plain q, pyDs_plain q2]
        rfl
end
omit [TabEnv] in
theorem lists_plain {ds : List D} {p : PyData} (e : (pyDs ds).map PyData.list = some p) : p.plain = true := by
  cases q : pyDs ds with
  | none => rw [q] at e; cases e
  | some ps =>
    rw [q] at e
    cases e
    show PyData.plain (.list ps) = true
    unfold PyData.plain
    exact pyDs_plain q
omit [TabEnv] in
theorem pyO_plain {o : O} {p : PyData} (e : pyO c o = some p) : p.plain = true := by
  unfold pyO at e
  split at e
  · split at e
    · exact lists_plain e
    · cases e
  · exact pyD_plain e
  · split at e
    · exact lists_plain e
    · exact lists_plain e
    · cases e
omit [TabEnv] in
def gEq (neg : Bool) : O → O → M D := fun a b c => match pyO c a, pyO c b with
  | some p, some q => if p.depth ≤ 64 then .ok (.v (.bl (if neg then !PyData.eqv p q else PyData.eqv p q))) c else .no
  | _, _ => .no
omit [TabEnv] in
def rEqP (K : PySem.W.Frag) (neg : Bool) : R2 := fun x y H Q => ∃ d e, Dp K H x d ∧ Dp K H y e ∧ d.plain = true ∧ e.plain = true ∧ d.depth ≤ 64 ∧ Q (.bl (if neg then !PyData.eqv d e else PyData.eqv d e)) H
theorem r2_eq (neg : Bool) : R2S K W (rEqP K neg) (gEq neg) := fun Z F μ c σ H Q x y a b R rx ry p => by
  unfold gEq at p
  split at p
  · next d e h1 h2 =>
    split at p
    · next hs => exact ⟨d, e, dpO_of R rx h1, dpO_of R ry h2, pyO_plain h1, pyO_plain h2, hs, p F μ H (Le.refl _ _) R _ (.v _)⟩
    · exact p.elim
  · exact p.elim
omit [TabEnv] in
/-- is None -/
def isNon : D → Bool
  | .v x => decide (x = .non)
  | _ => false
omit [TabEnv] in
def gNone (neg : Bool) : O → O → M D := fun a b c => match b with
  | .d (.v .non) => match a with
    | .d x => .ok (.v (.bl (if neg then !isNon x else isNon x))) c
    | .sl _ => .no
  | _ => .no
omit [TabEnv] in
def rNoneA (neg : Bool) : R2 := fun x y H Q => y = .non ∧ Q (.bl (if neg then !decide (x = .non) else decide (x = .non))) H
omit [TabEnv] in
theorem rep_non {v : V} {d : D} (h : Rep K F μ v d) : isNon d = decide (v = .non) := by
  cases h with
  | v x => rfl
  | _ => rfl
theorem r2_none (neg : Bool) : R2S K W (rNoneA neg) (gNone neg) := fun Z F μ c σ H Q x y a b R rx ry p => by
  unfold gNone at p
  split at p
  · cases ry with
    | d ry =>
      cases ry
      refine ⟨rfl, ?_⟩
      split at p
      · cases rx with
        | d rx =>
          have := p F μ H (Le.refl _ _) R _ (.v _)
          rw [rep_non rx] at this
          exact this
      · exact p.elim
  · exact p.elim

omit [TabEnv] in
def iLt : Int → Int → Option V := fun i j => some (.bl (decide (i < j)))
omit [TabEnv] in
def iLe : Int → Int → Option V := fun i j => some (.bl (decide (i ≤ j)))
omit [TabEnv] in
def iGt : Int → Int → Option V := fun i j => some (.bl (decide (j < i)))
omit [TabEnv] in
def iGe : Int → Int → Option V := fun i j => some (.bl (decide (j ≤ i)))
theorem r2_lt : R2S K W (rI0 fun i j => .bl (decide (i < j))) (gI iLt) := r2_int fun i j v H Q e q => ⟨i, j, rfl, rfl, by cases e; exact q⟩
theorem r2_le : R2S K W (rI0 fun i j => .bl (decide (i ≤ j))) (gI iLe) := r2_int fun i j v H Q e q => ⟨i, j, rfl, rfl, by cases e; exact q⟩
theorem r2_gt : R2S K W (rI0 fun i j => .bl (decide (j < i))) (gI iGt) := r2_int fun i j v H Q e q => ⟨i, j, rfl, rfl, by cases e; exact q⟩
theorem r2_ge : R2S K W (rI0 fun i j => .bl (decide (j ≤ i))) (gI iGe) := r2_int fun i j v H Q e q => ⟨i, j, rfl, rfl, by cases e; exact q⟩
omit [TabEnv] in
/-- plain flat values -/
def vsD : List D → Option (List V)
  | [] => some []
  | .v x :: ds => if flatV x = true then (vsD ds).map (x :: ·) else none
  | _ :: _ => none
omit [TabEnv] in
theorem vs_of {F : Hp} {μ : List Addr} : ∀ {ds : List D} {vs xs : List V}, Reps K F μ vs ds → vsD ds = some xs → vs = xs ∧ xs.all flatV = true
  | [], vs, xs, h, e => by cases h; unfold vsD at e; cases e; exact ⟨rfl, rfl⟩
  | .v x :: ds, vs, xs, h, e => by
    cases h with
    | cons h r =>
      cases h
      unfold vsD at e
      split at e
      · next hf =>
        cases q : vsD ds with
        | none => rw [q] at e; cases e
        | some ys =>
          rw [q] at e
          cases e
          obtain ⟨rfl, ha⟩ := vs_of r q
          exact ⟨rfl, by rw [List.all_cons, hf, ha]; rfl⟩
      · cases e
  | .tup _ :: _, _, _, _, e => by unfold vsD at e; cases e
  | .lst _ :: _, _, _, _, e => by unfold vsD at e; cases e
  | .scr _ :: _, _, _, _, e => by unfold vsD at e; cases e
  | .dct _ :: _, _, _, _, e => by unfold vsD at e; cases e
  | .ins _ _ :: _, _, _, _, e => by unfold vsD at e; cases e
  | .loc _ :: _, _, _, _, e => by unfold vsD at e; cases e
omit [TabEnv] in
def gIn (neg : Bool) : O → O → M D := fun a b c => match a with
  | .d (.v x) => if flatV x = true then match (seqD c b).bind vsD with
      | some xs => .ok (.v (.bl (if neg then !inV x xs else inV x xs))) c
      | none => .no
    else .no
  | _ => .no
omit [TabEnv] in
/-- one sign in a text -/
def gSign (neg : Bool) : O → O → M D := fun a b c => match a, b with
  | .d (.v (.str x)), .d (.v (.str z)) => match x.cps.toList with
    | [k] => .ok (.v (.bl (if neg then !decide (k ∈ z.cps.toList) else decide (k ∈ z.cps.toList)))) c
    | _ => .no
  | _, _ => .no
end

section
variable {X : Cx} {W : WX} {a b : Expr} {t ta tb : TE} {pos : Pos} {da db : M O}
/-- a comparison's rule: of the text's machine, of the image -/
structure CmpR (X : Cx) (W : WX) (op : CmpOp) (r : R2) (g : O → O → M D) : Prop where
  op : OpR X (compareOp op) r
  g : R2S X.K W r g
omit [TabEnv] in
theorem op_eqP (neg : Bool) (hu : X.A.units + 64 < cLine) : OpR X (compareOp (if neg then .NotEq else .Eq)) (rEqP X.K neg) := by
  intro pins s σ H x y v u Q I rx ry h
  obtain ⟨d, e, hd, he, pd, pe, hz, q⟩ := h
  obtain ⟨as, r1⟩ := Dp.reads I d x v hd rx
  obtain ⟨bs, r2⟩ := Dp.reads I e y u he ry
  have hm : X.A.units + min d.depth e.depth < cLine := by
    have : min d.depth e.depth ≤ d.depth := Nat.min_le_left _ _
    omega
  cases neg with
  | false => exact PySem.SeqAt.eq_plain r1 r2 pd pe hm ⟨.bl _, H, I, rfl, q⟩
  | true => exact PySem.SeqAt.ne_plain r1 r2 pd pe hm ⟨.bl _, H, I, rfl, q⟩
theorem cEq {K : PySem.W.Frag} (hu : X.A.units + 64 < cLine) (hK : X.K = K := by rfl) : CmpR X W .Eq (rEqP K false) (gEq false) := by
  subst hK
  exact ⟨op_eqP false hu, r2_eq false⟩
theorem cNe {K : PySem.W.Frag} (hu : X.A.units + 64 < cLine) (hK : X.K = K := by rfl) : CmpR X W .NotEq (rEqP K true) (gEq true) := by
  subst hK
  exact ⟨op_eqP true hu, r2_eq true⟩
theorem cLt : CmpR X W .Lt (rI0 fun i j => .bl (decide (i < j))) (gI iLt) := ⟨op_lt, r2_lt⟩
theorem cLe : CmpR X W .LtE (rI0 fun i j => .bl (decide (i ≤ j))) (gI iLe) := ⟨op_le, r2_le⟩
theorem cGt : CmpR X W .Gt (rI0 fun i j => .bl (decide (j < i))) (gI iGt) := ⟨op_gt, r2_gt⟩
theorem cGe : CmpR X W .GtE (rI0 fun i j => .bl (decide (j ≤ i))) (gI iGe) := ⟨op_ge, r2_ge⟩
theorem cIs : CmpR X W .Is (rNoneA false) (gNone false) := ⟨op_isN, r2_none false⟩
theorem cIsNot : CmpR X W .IsNot (rNoneA true) (gNone true) := ⟨op_notN, r2_none true⟩
theorem dd_cmp {op : CmpOp} {r : R2} {g : O → O → M D} (h : CmpR X W op r g) (ha : ED X W a ta da) (hb : ED X W b tb db) (hm : behindInMarks op b = false) : DD X W (.Compare a [op] [b] pos) (tOp r ta tb) (dOp g da db) :=
  ⟨pe_cmpR h.op ha.pe hb.pe hm, ev_op h.g ha.ev hb.ev⟩
omit [TabEnv] in
/-- what a value is as a test -/
def truD (c : Stt) : O → Option Bool
  | .d (.v .non) => some false
  | .d (.v (.bl b)) => some b
  | .d (.v (.int i)) => some (i != 0)
  | .d (.v (.str x)) => if x.length ≤ 1000000 then some ((x.length : Int) != 0) else none
  | o => (seqD c o).map fun ds => !ds.isEmpty
omit [TabEnv] in
def gTru (o : O) : M Bool := fun c => match truD c o with
  | some b => .ok b c
  | none => .no
theorem tru_of {K : PySem.W.Frag} {Z F : Hp} {μ : List Addr} {c : Stt} {σ : St} {H : Hp} {v : V} {o : O} {b : Bool} (R : Rel K Z F μ c σ H) (r : RepO K F μ σ v o) (e : truD c o = some b) : TruV K v H b := by
  unfold truD at e
  split at e
  · cases r with | d r => cases r; cases e; rfl
  · cases r with | d r => cases r; cases e; rfl
  · cases r with | d r => cases r; cases e; rfl
  · cases r with
    | d r =>
      cases r
      split at e
      · next hz => cases e; exact ⟨small6 hz, rfl⟩
      · cases e
  · cases q : seqD c o with
    | none => rw [q] at e; cases e
    | some ds =>
      rw [q] at e
      cases e
      obtain ⟨l, vs, rfl, h1, q1⟩ := seq_at R r q
      have el : (!vs.isEmpty) = !ds.isEmpty := by
        have := q1.length
        cases vs <;> cases ds <;> simp_all
      rcases h1 with h1 | h1
      · exact .inl ⟨vs, h1, el.symm⟩
      · exact .inr (.inl ⟨vs, h1, el.symm⟩)
omit [TabEnv] in
def tTru (K : PySem.W.Frag) (t : TE) : TT := fun σ H Q => t σ H fun x H' => ∃ k, TruV K x H' k ∧ Q k H'
omit [TabEnv] in
def dTru (a : M O) : M Bool := M.bind a gTru
theorem td_val {K : PySem.W.Frag} {e : Expr} (h : ED X W e t da) (hK : X.K = K := by rfl) (he : ∀ whole, isTrue e X.env whole = (do let v ← whole; standAt e.pos; holding [v] (truthy v)) := by intro _; rfl) : TD X W e (tTru K t) (dTru da) := by
  subst hK
  exact ⟨pt_truth h.pe he, fun Z F μ c σ H Q R p => h.ev Z F μ c σ H _ R (p.bind.imp fun o c1 F1 μ1 H1 l1 R1 p1 v1 r1 => by
    unfold gTru at p1
    split at p1
    · next b hb => exact ⟨b, tru_of R1 r1 hb, p1 F1 μ1 H1 (Le.refl _ _) R1⟩
    · exact p1.elim)⟩
omit [TabEnv] in
def gBool (x : D) : M Bool := fun c => match x with
  | .v (.bl b) => .ok b c
  | _ => .no
omit [TabEnv] in
def dCmpT (g : O → O → M D) (a b : M O) : M Bool := M.bind (dOp g a b) gBool
theorem td_cmp {op : CmpOp} {r : R2} {g : O → O → M D} (h : CmpR X W op r g) (ha : ED X W a ta da) (hb : ED X W b tb db) (hm : behindInMarks op b = false) : TD X W (.Compare a [op] [b] pos) (tTest (tOp r ta tb)) (dCmpT g da db) :=
  ⟨pt_cmpR h.op ha.pe hb.pe hm, fun Z F μ c σ H Q R p => ev_op h.g ha.ev hb.ev Z F μ c σ H _ R (p.bind.imp fun x c1 F1 μ1 H1 l1 R1 p1 v1 r1 => by
    unfold gBool at p1
    split at p1
    · cases r1; exact ⟨_, rfl, p1 F1 μ1 H1 (Le.refl _ _) R1⟩
    · exact p1.elim)⟩
omit [TabEnv] in
/-- a op b op' c -/
def dChain (g g' : O → O → M D) (da db dc : M O) : M D := M.bind da fun x => M.bind db fun y => M.bind (M.bind (g x y) gBool) fun k => if k = true then M.bind dc fun z => g' y z else M.pure (.v (.bl false))
theorem dd_chain {op op' : CmpOp} {r r' : R2} {g g' : O → O → M D} {e : Expr} {tc : TE} {dc : M O} (h : CmpR X W op r g) (h' : CmpR X W op' r' g') (ha : ED X W a ta da) (hb : ED X W b tb db) (hc : ED X W e tc dc)
    (hm : lastMarks [op, op'] [b, e] = false := by rfl) : DD X W (.Compare a [op, op'] [b, e] pos) (tChain r r' ta tb tc) (dChain g g' da db dc) := by
  refine ⟨pe_chain h.op h'.op ha.pe hb.pe hc.pe hm, fun Z F μ c σ H Q R p => ?_⟩
  refine ha.ev Z F μ c σ H _ R (p.bind.imp fun o c1 F1 μ1 H1 l1 R1 p1 v1 r1 => hb.ev Z F1 μ1 c1 σ H1 _ R1 (p1.bind.imp fun o2 c2 F2 μ2 H2 l2 R2 p2 v2 r2 => ?_))
  refine h.g Z F2 μ2 c2 σ H2 _ v1 v2 o o2 R2 (r1.mono l2) r2 (p2.bind.bind.imp fun x c3 F3 μ3 H3 l3 R3 p3 v3 r3 => ?_)
  unfold gBool at p3
  split at p3
  · next k =>
    cases r3
    have p4 := p3 F3 μ3 H3 (Le.refl _ _) R3
    refine ⟨k, rfl, ?_⟩
    cases k with
    | true => exact hc.ev Z F3 μ3 c3 σ H3 _ R3 (p4.bind.imp fun o4 c4 F4 μ4 H4 l4 R4 p5 v4 r4 => h'.g Z F4 μ4 c4 σ H4 Q v2 v4 o2 o4 R4 ((r2.mono l3).mono l4) r4 p5)
    | false => exact p4 F3 μ3 H3 (Le.refl _ _) R3 _ (.v _)
  · exact p3.elim
theorem td_chain {op op' : CmpOp} {r r' : R2} {g g' : O → O → M D} {e : Expr} {tc : TE} {dc : M O} (h : CmpR X W op r g) (h' : CmpR X W op' r' g') (ha : ED X W a ta da) (hb : ED X W b tb db) (hc : ED X W e tc dc)
    (hm : lastMarks [op, op'] [b, e] = false := by rfl) : TD X W (.Compare a [op, op'] [b, e] pos) (tTest (tChain r r' ta tb tc)) (M.bind (dChain g g' da db dc) gBool) :=
  ⟨pt_chain h.op h'.op ha.pe hb.pe hc.pe hm, fun Z F μ c σ H Q R p => (dd_chain (pos := pos) h h' ha hb hc hm).ev Z F μ c σ H _ R (p.bind.imp fun x c1 F1 μ1 H1 l1 R1 p1 v1 r1 => by
    unfold gBool at p1
    split at p1
    · cases r1; exact ⟨_, rfl, p1 F1 μ1 H1 (Le.refl _ _) R1⟩
    · exact p1.elim)⟩
/-! ### and, or, not, if -/
variable {A B : TT} {dA dB : M Bool} {rest : List Expr}
theorem wd_and1 (ha : TD X W a A dA) : WD X W (.BoolOp .And [a] pos) A dA := ⟨pw_and1 ha.pt, ha.ev⟩
theorem wd_or1 (ha : TD X W a A dA) : WD X W (.BoolOp .Or [a] pos) A dA := ⟨pw_or1 ha.pt, ha.ev⟩
omit [TabEnv] in
def dAnd (a b : M Bool) : M Bool := M.bind a fun k => if k = true then b else M.pure false
omit [TabEnv] in
def dOr (a b : M Bool) : M Bool := M.bind a fun k => if k = true then M.pure true else b
omit [TabEnv] in
def dNotT (a : M Bool) : M Bool := M.bind a fun k => M.pure (!k)
theorem wd_and (ha : TD X W a A dA) (hb : WD X W (.BoolOp .And (b :: rest) pos) B dB) : WD X W (.BoolOp .And (a :: b :: rest) pos) (tAnd A B) (dAnd dA dB) :=
  ⟨pw_and ha.pt hb.pw, fun Z F μ c σ H Q R p => ha.ev Z F μ c σ H _ R (p.bind.imp fun k c1 F1 μ1 H1 l1 R1 p1 => by
    cases k with
    | true => exact hb.ev Z F1 μ1 c1 σ H1 Q R1 p1
    | false => exact p1 F1 μ1 H1 (Le.refl _ _) R1)⟩
theorem wd_or (ha : TD X W a A dA) (hb : WD X W (.BoolOp .Or (b :: rest) pos) B dB) : WD X W (.BoolOp .Or (a :: b :: rest) pos) (tOr A B) (dOr dA dB) :=
  ⟨pw_or ha.pt hb.pw, fun Z F μ c σ H Q R p => ha.ev Z F μ c σ H _ R (p.bind.imp fun k c1 F1 μ1 H1 l1 R1 p1 => by
    cases k with
    | true => exact p1 F1 μ1 H1 (Le.refl _ _) R1
    | false => exact hb.ev Z F1 μ1 c1 σ H1 Q R1 p1)⟩
theorem td_w {e : Expr} (h : WD X W e A dA) : TD X W e A dA := ⟨h.pw.pt, h.ev⟩
theorem td_not (ha : TD X W a A dA) : TD X W (.UnaryOp .Not a pos) (tNot A) (dNotT dA) :=
  ⟨pt_not ha.pt, fun Z F μ c σ H Q R p => ha.ev Z F μ c σ H _ R (p.bind.imp fun k c1 F1 μ1 H1 l1 R1 p1 => p1 F1 μ1 H1 (Le.refl _ _) R1)⟩
omit [TabEnv] in
/-- as values: all but the last True or False -/
def gBoolO (o : O) : M Bool := fun c => match o with
  | .d (.v (.bl b)) => .ok b c
  | _ => .no
theorem gBoolO_ok {K : PySem.W.Frag} {Z F : Hp} {μ : List Addr} {c : Stt} {σ : St} {H : Hp} {v : V} {o : O} {P : Bool → Stt → Hp → List Addr → Hp → Prop} (R : Rel K Z F μ c σ H) (r : RepO K F μ σ v o) (p : Post K Z F μ σ W (gBoolO o c) P) : ∃ b, v = .bl b ∧ P b c F μ H := by
  unfold gBoolO at p
  split at p
  · cases r with | d r => cases r; exact ⟨_, rfl, p F μ H (Le.refl _ _) R⟩
  · exact p.elim
theorem ed_one {op : BoolOp} (h : ED X W a ta da) : ED X W (.BoolOp op [a] pos) ta da := ⟨pe_one h.pe, h.ev⟩
omit [TabEnv] in
def dAndV (a b : M O) : M O := M.bind (M.bind a gBoolO) fun k => if k = true then b else M.pure (.d (.v (.bl false)))
omit [TabEnv] in
def dOrV (a b : M O) : M O := M.bind (M.bind a gBoolO) fun k => if k = true then M.pure (.d (.v (.bl true))) else b
omit [TabEnv] in
def dNotV (a : M O) : M O := M.bind (M.bind a gBoolO) fun k => M.pure (.d (.v (.bl (!k))))
theorem ed_and (ha : ED X W a ta da) (hb : ED X W (.BoolOp .And (b :: rest) pos) tb db) : ED X W (.BoolOp .And (a :: b :: rest) pos) (tAndV ta tb) (dAndV da db) :=
  ⟨pe_and ha.pe hb.pe, fun Z F μ c σ H Q R p => ha.ev Z F μ c σ H _ R (p.bind.bind.imp fun o c1 F1 μ1 H1 l1 R1 p1 v1 r1 => by
    obtain ⟨k, rfl, p2⟩ := gBoolO_ok R1 r1 p1
    refine ⟨k, rfl, ?_⟩
    cases k with
    | true => exact hb.ev Z F1 μ1 c1 σ H1 Q R1 p2
    | false => exact p2 F1 μ1 H1 (Le.refl _ _) R1 _ (.d (.v _)))⟩
theorem ed_not (ha : ED X W a ta da) : ED X W (.UnaryOp .Not a pos) (tNotV ta) (dNotV da) :=
  ⟨pe_not ha.pe, fun Z F μ c σ H Q R p => ha.ev Z F μ c σ H _ R (p.bind.bind.imp fun o c1 F1 μ1 H1 l1 R1 p1 v1 r1 => by
    obtain ⟨k, rfl, p2⟩ := gBoolO_ok R1 r1 p1
    exact ⟨k, rfl, p2 F1 μ1 H1 (Le.refl _ _) R1 _ (.d (.v _))⟩)⟩
omit [TabEnv] in
def dIf (t : M Bool) (a b : M O) : M O := M.bind t fun k => if k = true then a else b
theorem ed_if {e : Expr} (hc : TD X W e A dA) (ha : ED X W a ta da) (hb : ED X W b tb db) : ED X W (.IfExp e a b pos) (tIf A ta tb) (dIf dA da db) :=
  ⟨pe_ifExp hc.pt ha.pe hb.pe, fun Z F μ c σ H Q R p => hc.ev Z F μ c σ H _ R (p.bind.imp fun k c1 F1 μ1 H1 l1 R1 p1 => by
    cases k with
    | true => exact ha.ev Z F1 μ1 c1 σ H1 Q R1 p1
    | false => exact hb.ev Z F1 μ1 c1 σ H1 Q R1 p1)⟩

/-! ### rows of operands, displays, calls -/
variable {es : List Expr} {tr : TA} {dr : M (List D)}
omit [TabEnv] in
def dNil : M (List D) := M.pure []
omit [TabEnv] in
def dCons (dx : M D) (dr : M (List D)) : M (List D) := M.bind dx fun x => M.bind dr fun xs => M.pure (x :: xs)
theorem ad_nil : AD X W [] tNil dNil := ⟨pa_nil, fun Z F μ c σ H Q R p => p F μ H (Le.refl _ _) R [] .nil⟩
theorem ad_cons {dx : M D} (ha : DD X W a ta dx) (hr : AD X W es tr dr) (hs : starEach (a :: es) X.env = (false, eval a X.env) :: starEach es X.env := by rfl) : AD X W (a :: es) (tCons ta tr) (dCons dx dr) :=
  ⟨pa_cons ha.pe hr.pa hs, fun Z F μ c σ H Q R p => ha.ev Z F μ c σ H _ R (p.bind.imp fun x c1 F1 μ1 H1 l1 R1 p1 v1 r1 => hr.ev Z F1 μ1 c1 σ H1 _ R1 (p1.bind.imp fun xs c2 F2 μ2 H2 l2 R2 p2 vs rs => p2 F2 μ2 H2 (Le.refl _ _) R2 _ (.cons (r1.mono l2) rs)))⟩
omit [TabEnv] in
def dTup (dr : M (List D)) : M D := M.bind dr fun ds c => if ds.length ≤ 1000000 then .ok (.tup ds) c else .no
theorem dd_tup {k : Nat} (h : AD X W es tr dr) : DD X W (.Tuple es k pos) (tTup tr) (dTup dr) :=
  ⟨pe_tup h.pa, fun Z F μ c σ H Q R p => h.ev Z F μ c σ H _ R (p.bind.imp fun ds c1 F1 μ1 H1 l1 R1 p1 vs rs => by
    split at p1
    · next hz =>
      refine ⟨small6 (by rw [rs.length]; exact hz), fun q hq => ?_⟩
      obtain ⟨R2, l2⟩ := R1.new (o := .tup vs) hq
      exact p1 _ _ _ l2 R2 _ (.tup (.of upd_same) (rs.mono l2))
    · exact p1.elim)⟩
omit [TabEnv] in
def dLst (dr : M (List D)) : M (List D) := M.bind dr fun ds c => if ds.length ≤ 1000000 then .ok ds c else .no
theorem en_lst (h : AD X W es tr dr) : EN X W (.List es pos) (tLst tr) (dLst dr) :=
  ⟨pe_lst h.pa, fun Z F μ c σ H Q R p => h.ev Z F μ c σ H _ R (p.bind.imp fun ds c1 F1 μ1 H1 l1 R1 p1 vs rs => by
    split at p1
    · next hz =>
      refine ⟨small6 (by rw [rs.length]; exact hz), fun q hq => ?_⟩
      exact p1 F1 μ1 _ (Le.refl _ _) (R1.up (same_new hq)) q vs upd_same (R1.nob hq) rs
    · exact p1.elim)⟩

omit [TabEnv] in
/-- what a def computes -/
inductive RF where
  | ok (d : D) (S : List Cell)
  | ex (e : Exn) (S : List Cell)
  | no
def PostF (K : PySem.W.Frag) (Z F : Hp) (μ : List Addr) (r : RF) (Q : VK) (E : XK) : Prop := match r with
  | .ok d S => ∀ v F' μ' H', Le F μ F' μ' → Rel K Z F' μ' ⟨[], S⟩ [] H' → Rep K F' μ' v d → Q v H'
  | .ex e S => ∀ cls od F' μ' H', Le F μ F' μ' → Rel K Z F' μ' ⟨[], S⟩ [] H' → RepX K F' μ' cls od e → E cls od H'
  | .no => False
omit [TabEnv] in
abbrev G := List D → List Cell → RF
/-- the promise of a def that computes g of n operands -/
def spG (K : PySem.W.Frag) (g : G) : Sp := fun vs H Q E => ∃ Z F μ S ds, Rel K Z F μ ⟨[], S⟩ [] H ∧ Reps K F μ vs ds ∧ PostF K Z F μ (g ds S) Q E
omit [TabEnv] in
/-- the caller's own objects are lent to nobody -/
noncomputable def lend (Z : Hp) (c : Stt) (σ : St) (H : Hp) : Hp := fun a => open Classical in if (∃ (i : Nat) (m : Cell), c.r[i]? = some (.own m) ∧ σ[i]? = some (some (.ref a))) then H a else Z a
theorem lend_of {K : PySem.W.Frag} {Z F : Hp} {μ : List Addr} {c : Stt} {σ : St} {H : Hp} (R : Rel K Z F μ c σ H) : Rel K (lend Z c σ H) F μ ⟨[], c.S⟩ [] H := by
  have yes : ∀ a, (∃ (i : Nat) (m : Cell), c.r[i]? = some (.own m) ∧ σ[i]? = some (some (.ref a))) → F a = none := fun a ⟨i, m, q, e⟩ => by
    obtain ⟨a', e1, c1, g1⟩ := R.own i m q
    rw [e] at e1; cases e1
    exact c1.f g1
  refine { ex := R.ex, exz := fun a o e => ?_, fz := fun a o e => ?_, len := rfl, slot := fun i x e => by simp at e, own := fun i x e => by simp at e, dis := fun i j a m m' e => by simp at e, lm := R.lm, sto := fun n a m e1 e2 => ?_, dst := fun i n a m e => by simp at e, ndm := R.ndm, tab := R.tab.side fun p hp ⟨ps, ht⟩ hz => ?_ }
  · unfold lend at e
    split at e
    · exact e
    · exact R.exz a o e
  · unfold lend at e
    split at e
    · next h => exact yes a h
    · exact R.fz a o e
  · have c1 := R.sto n a m e1 e2
    refine ⟨?_, c1.f, c1.o, c1.l⟩
    unfold lend
    rw [if_neg]
    · exact c1.z
    · rintro ⟨i, m', q, e⟩
      exact R.dst i n a m' q e e1
  · unfold lend
    rw [if_neg]
    · exact hz
    · rintro ⟨i, m', q, e⟩
      obtain ⟨a', e1, ⟨_, _, ⟨u, e2, e3⟩, _⟩, g1⟩ := R.own i m' q
      rw [e] at e1
      cases e1
      rw [ht] at e2
      cases e2
      exact (e3.noTab g1).1 ps rfl
/-- behind the call -/
theorem lend_back {K : PySem.W.Frag} {Z F F' : Hp} {μ μ' : List Addr} {c : Stt} {σ : St} {H H' : Hp} {S' : List Cell} (R : Rel K Z F μ c σ H) (le : Le F μ F' μ') (R' : Rel K (lend Z c σ H) F' μ' ⟨[], S'⟩ [] H') : Rel K Z F' μ' ⟨c.r, S'⟩ σ H' := by
  have mine : ∀ {a : Addr} {i : Nat} {m : Cell}, c.r[i]? = some (.own m) → σ[i]? = some (some (.ref a)) → lend Z c σ H a = H a := fun {a i m} q e => by
    unfold lend
    rw [if_pos ⟨i, m, q, e⟩]
  have zs : ∀ a o, Z a = some o → lend Z c σ H a = some o := fun a o e => by
    unfold lend
    split
    · next h =>
      obtain ⟨i, m, q, e1⟩ := h
      obtain ⟨a', e2, c1, _⟩ := R.own i m q
      rw [e1] at e2; cases e2
      rw [c1.z] at e; cases e
    · exact e
  refine { ex := R'.ex, exz := fun a o e => R'.exz a o (zs a o e), fz := fun a o e => R'.fz a o (zs a o e), len := R.len, slot := fun i x e => (let ⟨v, e1, e2⟩ := R.slot i x e; ⟨v, e1, e2.mono le⟩), own := fun i m q => ?_, dis := R.dis, lm := R'.lm, sto := fun n a m e1 e2 => ?_, dst := fun i n a m q e e1 => ?_, ndm := R'.ndm, tab := R'.tab.side fun p hp _ hz => ?_ }
  · obtain ⟨a, e, c1, g1⟩ := R.own i m q
    obtain ⟨o, e1, e2⟩ := c1.o
    have l := mine q e
    rw [e1] at l
    exact ⟨a, e, ⟨c1.z, fun _ => R'.fz a o l, ⟨o, R'.exz a o l, e2.mono le⟩, fun g => (lkE g1 g).elim⟩, g1⟩
  · have c1 := R'.sto n a m e1 e2
    refine ⟨?_, c1.f, c1.o, c1.l⟩
    cases hz : Z a with
    | none => rfl
    | some o =>
      have := zs a o hz
      rw [c1.z] at this; cases this
  · obtain ⟨a', e', c1, g1⟩ := R.own i m q
    rw [e] at e'; cases e'
    obtain ⟨o, e2, _⟩ := c1.o
    have l := mine q e
    rw [e2] at l
    have hn : n < S'.length := by
      have h1 : μ'.length = S'.length := R'.lm
      rw [← h1]
      exact (List.getElem?_eq_some_iff.mp e1).1
    have := (R'.sto n a _ e1 (List.getElem?_eq_getElem hn)).z
    rw [l] at this; cases this
  · cases q : Z p.1 with
    | none => rfl
    | some o =>
      rw [zs _ _ q] at hz
      cases hz
omit [TabEnv] in
/-- what a caller's wish about exceptions takes -/
def Pol (X : Cx) (W : WX) : Prop := ∀ σ, PassesAt (L2N.CX X.prog X.w) X σ (WE W σ)
omit [TabEnv] in
theorem pol_of {X : Cx} {W : WX} (tk : L2N.Takes X W) : Pol X W := fun σ => L2N.passAt tk σ
omit [TabEnv] in
abbrev W0 : WX := fun _ _ _ _ => False
omit [TabEnv] in
theorem pol0 {X : Cx} : Pol X W0 := fun σ pins H s e s' I c => by
  obtain ⟨_, _, _, _, _, _, _, _, _, _, _, _, z⟩ := c
  exact z.elim
omit [TabEnv] in
def ofF (c : Stt) : RF → R D
  | .ok d S => .ok d ⟨c.r, S⟩
  | .ex e S => .ex e ⟨c.r, S⟩
  | .no => .no
omit [TabEnv] in
def dCall (g : G) (dr : M (List D)) : M D := M.bind dr fun ds c => ofF c (g ds c.S)
theorem sp_call {K : PySem.W.Frag} {Z F : Hp} {μ : List Addr} {c : Stt} {σ : St} {H : Hp} {g : G} {ds : List D} {vs : List V} {Q : VK} (R : Rel K Z F μ c σ H) (rs : Reps K F μ vs ds)
    (p : Post K Z F μ σ W (ofF c (g ds c.S)) (fun x _ F' μ' H' => ∀ v, Rep K F' μ' v x → Q v H')) : spG K g vs H Q (WE W σ) := by
  refine ⟨lend Z c σ H, F, μ, c.S, ds, lend_of R, rs, ?_⟩
  cases e : g ds c.S with
  | ok d S => rw [e] at p; exact fun v F' μ' H' le R' rv => p F' μ' H' le (lend_back R le R') v rv
  | ex x S => rw [e] at p; exact fun cls od F' μ' H' le R' rv => p cls od F' μ' H' le (lend_back R le R') rv
  | no => rw [e] at p; exact p.elim
theorem dd_call {k : Nat} {f : Addr} {fd : FuncData} {ps : List Str} {g : G} {x : Str} {p : Pos} (Fk : FnOk X.prog X.w X.K X.mg X.base (L2N.CX X.prog X.w) k f fd ps (spG X.K g)) (hr : Room k X.A) (hg : Gl X x) (hm : X.mg x = some (.ref f)) (hk : PySem.W.keepIn X.K (.ref f) = true) (hb : Binds X.K fd ps []) (hx : Pol X W)
    (ha : AD X W (a :: es) tr dr)
    (hdb : (x == ("__debug__" : Str)) = false := by decide) (he : starEach (a :: es) X.env = (false, eval a X.env) :: starEach es X.env := by rfl) (hpl : (backTo pos (starEach es X.env)).any (·.1) = false := by rfl) :
    DD X W (.Call (.Name x p) (a :: es) [] pos) (tCallS (spG X.K g) (WE W) tr) (dCall g dr) :=
  ⟨pe_callS Fk hr hg hm hk hb hx ha.pa hdb he hpl, fun Z F μ c σ H Q R p => ha.ev Z F μ c σ H _ R (p.bind.imp fun ds c1 F1 μ1 H1 l1 R1 p1 vs rs => sp_call R1 rs p1)⟩
end
omit [TabEnv] in
/-- a def by its body -/
theorem fun_ok {CX : CXT} {P : Program} {w : World} {K : PySem.W.Frag} {mg : Str → Option Value} {base : Heap} {x qual : Str} {st : Stmt} {f : Addr} {fd : FuncData} {N ps : List Str} {k : Nat} {sp : Sp} (F : Fun K x qual st f fd) (S : FnScope N ps (defScope st)) (len : ∀ vs H Q E, sp vs H Q E → vs.length = ps.length)
    (body : ∀ (cdv : Value) (A : Around) (outer : List Env) (s : Shared) (H : Hp) (vs : List V) (Q : VK) (E : XK), Room k (A.deeper (PyProof.Rows.envOfC qual (defScope st) s.heap.objs.size f cdv)) → sp vs H Q E →
      ∃ t, PSs (cxOf CX P w K mg base N qual (defScope st) f cdv A outer s H E) (defBody st) t ∧ t { nx := fun _ H' => Q .non H', rt := Q } (start N vs) H) : FnOk P w K mg base CX (k + 1) f fd ps sp := by
  obtain ⟨oc, od, kV, doc, pm, an, cdv, ct, osl, rfl, lk, hcd⟩ := F.ex
  exact fn_of lk hcd S len (body cdv)
end My

set_option Elab.async false
set_option linter.all false
set_option maxRecDepth 100000
set_option maxHeartbeats 4000000
/-! F5: statements, loops, comprehensions, a def's promise. -/
namespace My
open PySem L2
variable [TabEnv]

omit [TabEnv] in
/-- nothing is raised here -/
def M.ne {α : Type} (m : M α) : M α := fun c => match m c with
  | .ex _ _ => .no
  | r => r
omit [TabEnv] in
inductive Fl where
  | nx
  | rt (d : D)
  | bk
  | ct
def PostS (K : PySem.W.Frag) (Z F : Hp) (μ : List Addr) (W : WX) (r : R Fl) (D : Ends) : Prop := match r with
  | .ok .nx c => ∀ σ' F' μ' H', Le F μ F' μ' → Rel K Z F' μ' c σ' H' → D.nx σ' H'
  | .ok (.rt d) c => ∀ v σ' F' μ' H', Le F μ F' μ' → Rel K Z F' μ' c σ' H' → Rep K F' μ' v d → D.rt v H'
  | .ok .bk c => ∀ σ' F' μ' H', Le F μ F' μ' → Rel K Z F' μ' c σ' H' → D.bk σ' H'
  | .ok .ct c => ∀ σ' F' μ' H', Le F μ F' μ' → Rel K Z F' μ' c σ' H' → D.ct σ' H'
  | .ex e c => ∀ cls od σ' F' μ' H', Le F μ F' μ' → Rel K Z F' μ' c σ' H' → RepX K F' μ' cls od e → W cls od σ' H'
  | .no => False
theorem PostS.le {K : PySem.W.Frag} {Z F F' : Hp} {μ μ' : List Addr} {W : WX} {r : R Fl} {D : Ends} (le : Le F μ F' μ') (h : PostS K Z F μ W r D) : PostS K Z F' μ' W r D := by
  cases r with
  | ok a c =>
    cases a with
    | nx => exact fun σ F2 μ2 H2 l r => h σ F2 μ2 H2 (le.trans l) r
    | rt d => exact fun v σ F2 μ2 H2 l r x => h v σ F2 μ2 H2 (le.trans l) r x
    | bk => exact fun σ F2 μ2 H2 l r => h σ F2 μ2 H2 (le.trans l) r
    | ct => exact fun σ F2 μ2 H2 l r => h σ F2 μ2 H2 (le.trans l) r
  | ex e c => exact fun cls od σ F2 μ2 H2 l r x => h cls od σ F2 μ2 H2 (le.trans l) r x
  | no => exact h
def StS (K : PySem.W.Frag) (W : WX) (ts : TS) (ds : M Fl) : Prop := ∀ (Z F : Hp) (μ : List Addr) (c : Stt) (σ : St) (H : Hp) (D : Ends), Rel K Z F μ c σ H → PostS K Z F μ W (ds c) D → ts D σ H
structure SD (X : Cx) (W : WX) (st : Stmt) (t : TS) (d : M Fl) : Prop where
  ps : PS X st t
  ev : StS X.K W t d
structure BD (X : Cx) (W : WX) (st : List Stmt) (t : TS) (d : M Fl) : Prop where
  ps : PSs X st t
  ev : StS X.K W t d
/-- behind an expression of a statement -/
theorem PostS.bind {K : PySem.W.Frag} {Z F : Hp} {μ : List Addr} {W : WX} {α : Type} {m : M α} {f : α → M Fl} {c : Stt} {D : Ends} {σ : St} (h : PostS K Z F μ W (M.bind m f c) D) : Post K Z F μ σ W (m c) (fun a c' F' μ' H' => PostS K Z F' μ' W (f a c') D) := by
  unfold M.bind at h
  cases e : m c with
  | ok a c' => rw [e] at h; exact fun F2 μ2 H2 l r => PostS.le l h
  | ex x c' => rw [e] at h; exact fun cls od F' μ' H' l r x => h cls od σ F' μ' H' l r x
  | no => rw [e] at h; exact h

/-! ### targets -/
omit [TabEnv] in
theorem wipe_set {σ : St} {j : Nat} {y : Option V} : ∀ {us : List Nat}, j ∈ us → wipe (σ.set j y) us = wipe σ us
  | [], h => by simp at h
  | u :: us, h => by
    unfold wipe
    by_cases hj : j ∈ us
    · rw [wipe_set hj]
    · have e : j = u := by
        rcases List.mem_cons.mp h with e | e
        · exact e
        · exact absurd e hj
      subst e
      have key : ∀ (us : List Nat) (σ : St), (wipe (σ.set j y) us).set j none = (wipe σ us).set j none := by
        intro us
        induction us with
        | nil => intro σ; unfold wipe; rw [List.set_set]
        | cons v vs ih =>
          intro σ
          unfold wipe
          by_cases hv : v = j
          · subst hv
            rw [ih]
          · rw [List.set_comm _ _ hv, List.set_comm _ _ hv, ih]
      exact key us σ
def EvG (K : PySem.W.Frag) (vs : List Nat) (g : TG) (dg : D → M Unit) : Prop := ∀ (Z F : Hp) (μ : List Addr) (c : Stt) (σ : St) (H : Hp) (Q : St → Hp → Prop) (v : V) (x : D), Rel K Z F μ c σ H → Rep K F μ v x →
  (∃ c', dg x c = .ok () c' ∧ ∀ σ', Rel K Z F μ c' σ' H → (∀ us, (∀ j ∈ vs, j ∈ us) → wipe σ' us = wipe σ us) → Q σ' H) → g v σ H Q
def EvGs (K : PySem.W.Frag) (vs : List Nat) (g : TGs) (dg : List D → M Unit) : Prop := ∀ (Z F : Hp) (μ : List Addr) (c : Stt) (σ : St) (H : Hp) (Q : St → Hp → Prop) (us : List V) (xs : List D), Rel K Z F μ c σ H → Reps K F μ us xs →
  (∃ c', dg xs c = .ok () c' ∧ ∀ σ', Rel K Z F μ c' σ' H → (∀ us, (∀ j ∈ vs, j ∈ us) → wipe σ' us = wipe σ us) → Q σ' H) → g us σ H Q
structure GD (X : Cx) (tg : Expr) (vs : List Nat) (g : TG) (d : D → M Unit) : Prop where
  pg : PG X tg g
  ev : EvG X.K vs g d
structure GDs (X : Cx) (tg : List Expr) (vs : List Nat) (g : TGs) (d : List D → M Unit) : Prop where
  pg : PGs X tg g
  ev : EvGs X.K vs g d
omit [TabEnv] in
def dName (i : Nat) (x : D) : M Unit := fun c => .ok () ⟨c.r.set i (.d x), c.S⟩
section
variable {X : Cx} {W : WX} {pos : Pos} {e : Expr} {t : TE}
theorem gd_name {i : Nat} {x : Str} (hN : X.N.Nodup) (hi : X.N[i]? = some x) (hx : Loc X.env.scope x) (hf : X.fn x = true ∨ X.env.scope.names.lookup x = some .local := by first | exact .inl rfl | exact .inr rfl | assumption) : GD X (.Name x pos) [i] (gName i) (dName i) :=
  ⟨pg_name hN hi hx hf, fun Z F μ c σ H Q v x R r ⟨c', e, k⟩ => by
    cases e
    exact k _ (R.setD r) fun us hu => wipe_set (hu i (List.mem_singleton.mpr rfl))⟩
omit [TabEnv] in
def dUnit (xs : List D) : M Unit := fun c => match xs with
  | [] => .ok () c
  | _ => .no
omit [TabEnv] in
def dConsG (dg : D → M Unit) (dr : List D → M Unit) (xs : List D) : M Unit := match xs with
  | x :: r => M.bind (dg x) fun _ => dr r
  | [] => M.no
theorem gds_nil : GDs X [] [] gNil dUnit := ⟨pgs_nil, fun Z F μ c σ H Q us xs R r ⟨c', e, k⟩ => by
  cases r with
  | nil => cases e; exact ⟨rfl, k σ R fun _ _ => rfl⟩
  | cons _ _ => cases e⟩
theorem gds_cons {tg : Expr} {es : List Expr} {v1 v2 : List Nat} {g1 : TG} {g2 : TGs} {d1 : D → M Unit} {d2 : List D → M Unit} (h1 : GD X tg v1 g1 d1) (h2 : GDs X es v2 g2 d2)
    (hs : (assignEach (tg :: es) X.env).map (·.2) = assign tg X.env :: (assignEach es X.env).map (·.2) := by rfl) : GDs X (tg :: es) (v1 ++ v2) (gCons g1 g2) (dConsG d1 d2) :=
  ⟨pgs_cons h1.pg h2.pg hs, fun Z F μ c σ H Q us xs R r ⟨c', e, k⟩ => by
    cases r with
    | nil => cases e
    | cons r1 rr =>
      refine ⟨_, _, rfl, ?_⟩
      unfold dConsG M.bind at e
      dsimp only at e
      cases q : d1 _ c with
      | no => rw [q] at e; cases e
      | ex _ _ => rw [q] at e; cases e
      | ok a c1 =>
        rw [q] at e
        exact h1.ev Z F μ c σ H _ _ _ R r1 ⟨c1, q, fun σ1 R1 w1 => h2.ev Z F μ c1 σ1 H Q _ _ R1 rr ⟨c', e, fun σ2 R2 w2 => k σ2 R2 fun us hu => (w2 us fun j hj => hu j (List.mem_append_right _ hj)).trans (w1 us fun j hj => hu j (List.mem_append_left _ hj))⟩⟩⟩
omit [TabEnv] in
def dTupG (n : Nat) (dr : List D → M Unit) (x : D) : M Unit := fun c => match x with
  | .tup ds => if ds.length = n then dr ds c else .no
  | _ => .no
theorem gd_tup {K : PySem.W.Frag} {es : List Expr} {k n : Nat} {vs : List Nat} {g : TGs} {d : List D → M Unit} (hc : X.calm = true) (h : GDs X es vs g d) (hn : (assignEach es X.env).length = n := by rfl) (hst : (assignEach es X.env).findIdx? (·.1) = none := by rfl) (hK : X.K = K := by rfl) :
    GD X (.Tuple es k pos) vs (gTup K n g) (dTupG n d) := by
  subst hK
  exact ⟨pg_tup hc h.pg hn hst, fun Z F μ c σ H Q v x R r ⟨c', e, k⟩ => by
    unfold dTupG at e
    split at e
    · next ds =>
      split at e
      · next hl =>
        cases r with
        | tup hs rs => exact ⟨_, _, rfl, Same.seqT R.ex hs, by rw [rs.length]; exact hl, h.ev Z F μ c σ H Q _ _ R rs ⟨c', e, k⟩⟩
      · cases e
    · cases e⟩

/-! ### small statements -/
omit [TabEnv] in
def dNx : M Fl := M.pure .nx
theorem bd_nil : BD X W [] tNext dNx := ⟨pss_nil, fun Z F μ c σ H D R p => p σ F μ H (Le.refl _ _) R⟩
omit [TabEnv] in
def dSeq (a b : M Fl) : M Fl := M.bind a fun f => match f with
  | .nx => b
  | f => M.pure f
theorem bd_cons {st : Stmt} {rest : List Stmt} {t u : TS} {a b : M Fl} (h1 : SD X W st t a) (h2 : BD X W rest u b) : BD X W (st :: rest) (tSeq t u) (dSeq a b) :=
  ⟨pss_cons h1.ps h2.ps, fun Z F μ c σ H D R p => h1.ev Z F μ c σ H _ R (by
    unfold dSeq M.bind at p
    cases e : a c with
    | ok f c1 =>
      rw [e] at p
      cases f with
      | nx => exact fun σ' F' μ' H' l R' => h2.ev Z F' μ' c1 σ' H' D R' (p.le l)
      | rt d => exact p
      | bk => exact p
      | ct => exact p
    | ex x c1 => rw [e] at p; exact p
    | no => rw [e] at p; exact p)⟩
theorem bd_one {st : Stmt} {t : TS} {a : M Fl} (h : SD X W st t a) : BD X W [st] t a := ⟨pss_one h.ps, h.ev⟩
omit [TabEnv] in
def dDrop {α : Type} (m : M α) : M Fl := M.bind m fun _ => M.pure .nx
theorem sd_expr {d : M O} (h : ED X W e t d) (hs : swapsWith e none pos.line X.env = pure false := by rfl) : SD X W (.Expr e pos) (tDrop t) (dDrop d) :=
  ⟨ps_expr h.pe hs, fun Z F μ c σ H D R p => h.ev Z F μ c σ H _ R (p.bind.imp fun o c1 F1 μ1 H1 l1 R1 p1 v r => p1 σ F1 μ1 H1 (Le.refl _ _) R1)⟩
omit [TabEnv] in
def dRet (m : M D) : M Fl := M.bind m fun d => M.pure (.rt d)
theorem sd_ret {d : M D} (h : DD X W e t d) : SD X W (.Return (some e) pos) (tRet t) (dRet d) :=
  ⟨ps_ret h.pe, fun Z F μ c σ H D R p => h.ev Z F μ c σ H _ R (p.bind.imp fun x c1 F1 μ1 H1 l1 R1 p1 v r => p1 v σ F1 μ1 H1 (Le.refl _ _) R1 r)⟩
omit [TabEnv] in
def dIfS (b : M Bool) (x y : M Fl) : M Fl := M.bind b fun k => if k = true then x else y
theorem sd_if {tc : TT} {t u : TS} {db : M Bool} {x y : M Fl} {as bs : List Stmt} (hc : TD X W e tc db) (ha : BD X W as t x) (hb : BD X W bs u y) : SD X W (.If e as bs pos) (tIfS tc t u) (dIfS db x y) :=
  ⟨ps_if hc.pt ha.ps hb.ps, fun Z F μ c σ H D R p => hc.ev Z F μ c σ H _ R (p.bind.imp fun k c1 F1 μ1 H1 l1 R1 p1 => by
    cases k with
    | true => exact ha.ev Z F1 μ1 c1 σ H1 D R1 p1
    | false => exact hb.ev Z F1 μ1 c1 σ H1 D R1 p1)⟩
omit [TabEnv] in
/-- name = value -/
def dSet (i : Nat) (m : M D) : M Fl := M.bind m fun x => M.bind (dName i x) fun _ => M.pure .nx
theorem sd_set {i : Nat} {x : Str} {pos' : Pos} {d : M D} (hN : X.N.Nodup) (hi : X.N[i]? = some x) (hx : Loc X.env.scope x) (h : DD X W e t d) (hs : swapsWith e (some (.Name x pos')) pos.line X.env = pure false := by rfl) (hf : X.fn x = true ∨ X.env.scope.names.lookup x = some .local := by first | exact .inl rfl | exact .inr rfl | assumption) :
    SD X W (.Assign [.Name x pos'] e pos) (tAsg t (gName i)) (dSet i d) :=
  ⟨ps_set hN hi hx h.pe hs hf, fun Z F μ c σ H D R p => h.ev Z F μ c σ H _ R (p.bind.imp fun y c1 F1 μ1 H1 l1 R1 p1 v r => p1 _ F1 μ1 H1 (Le.refl _ _) (R1.setD r))⟩
omit [TabEnv] in
/-- name = a new list, which is the name's own -/
def dSetN (i : Nat) (m : M (List D)) : M Fl := M.bind m fun ds c => .ok .nx ⟨c.r.set i (.own (.lst ds)), c.S⟩
theorem ev_setN {K : PySem.W.Frag} {i : Nat} {d : M (List D)} (h : EvN K W t d) : StS K W (tAsg t (gName i)) (dSetN i d) := fun Z F μ c σ H D R p =>
  h Z F μ c σ H _ R (p.bind.imp fun ds c1 F1 μ1 H1 l1 R1 p1 q vs hq n r => p1 _ F1 μ1 H1 (Le.refl _ _) (R1.setOwn hq n.f n.z n.no n.nm (.lst r) trivial))
theorem sd_setN {i : Nat} {x : Str} {pos' : Pos} {d : M (List D)} (hN : X.N.Nodup) (hi : X.N[i]? = some x) (hx : Loc X.env.scope x) (h : EN X W e t d) (hs : swapsWith e (some (.Name x pos')) pos.line X.env = pure false := by rfl) (hf : X.fn x = true ∨ X.env.scope.names.lookup x = some .local := by first | exact .inl rfl | exact .inr rfl | assumption) :
    SD X W (.Assign [.Name x pos'] e pos) (tAsg t (gName i)) (dSetN i d) := ⟨ps_set hN hi hx h.pe hs hf, ev_setN h.ev⟩
/-! ### op= -/
omit [TabEnv] in
def dAug (i : Nat) (g : O → O → M D) (de : M O) : M Fl := fun c => match c.r[i]? with
  | some (.d x) => M.bind de (fun o => M.bind (g (.d x) o) fun y => M.bind (dName i y) fun _ => M.pure .nx) c
  | _ => .no
omit [TabEnv] in
/-- a, b = x, y -/
def dPar (i j : Nat) (dr : M (List D)) : M Fl := M.bind dr fun ds c => match ds with
  | [x, y] => .ok .nx ⟨(c.r.set i (.d x)).set j (.d y), c.S⟩
  | _ => .no
/-! ### while -/
/-! ### what is walked -/
omit [TabEnv] in
structure Wk (K : PySem.W.Frag) (F : Hp) (μ : List Addr) (J : It) (ds : List D) : Prop where
  go : ∀ i H, Same F H → i < ds.length → J.go i H
  stop : ∀ i H, Same F H → ds.length ≤ i → J.stop i H
  yld : ∀ i H x H', Same F H → i < ds.length → J.yld i H x H' → ∃ d, ds[i]? = some d ∧ ((H' = H ∧ Rep K F μ x d) ∨ ∃ T vs es, H T = none ∧ H' = upd H T (.tup vs) ∧ x = .ref T ∧ d = .tup es ∧ Reps K F μ vs es)
omit [TabEnv] in
theorem Wk.mono {K : PySem.W.Frag} {F F' : Hp} {μ μ' : List Addr} {J : It} {ds : List D} (le : Le F μ F' μ') (h : Wk K F μ J ds) : Wk K F' μ' J ds :=
  ⟨fun i H s => h.go i H (le.ex.trans s), fun i H s => h.stop i H (le.ex.trans s), fun i H x H' s hi y => by
    obtain ⟨d, e, q⟩ := h.yld i H x H' (le.ex.trans s) hi y
    refine ⟨d, e, ?_⟩
    rcases q with ⟨e1, r⟩ | ⟨T, vs, es, h1, h2, h3, h4, r⟩
    · exact .inl ⟨e1, r.mono le⟩
    · exact .inr ⟨T, vs, es, h1, h2, h3, h4, r.mono le⟩⟩
def EvI (K : PySem.W.Frag) (W : WX) (wi : TI) (di : M (List D)) : Prop := ∀ (Z F : Hp) (μ : List Addr) (c : Stt) (σ : St) (H : Hp) (P : It → Hp → Prop), Rel K Z F μ c σ H →
  Post K Z F μ σ W (di c) (fun ds _ F' μ' H' => ∀ J, Wk K F' μ' J ds → P J H') → wi σ H P
structure ID (X : Cx) (W : WX) (tg iter : Expr) (wi : TI) (di : M (List D)) : Prop where
  pi : PI X tg iter wi
  ev : EvI X.K W wi di
omit [TabEnv] in
theorem wk_list {K : PySem.W.Frag} {F : Hp} {μ : List Addr} {a : Addr} {vs : List V} {ds : List D} (h : SqL K F a vs) (r : Reps K F μ vs ds) : Wk K F μ (Itl K a) ds where
  go := fun i H s hi => by
    have hj : i < vs.length := by rw [r.length]; exact hi
    exact ⟨vs, vs[i], s.seq h, List.getElem?_eq_getElem hj⟩
  stop := fun i H s hi => ⟨vs, s.seq h, by rw [r.length]; exact hi⟩
  yld := fun i H x H' s hi ⟨e, y⟩ => by
    obtain ⟨d, e1, r1⟩ := r.getV (y vs (s.seq h))
    exact ⟨d, e1, .inl ⟨e, r1⟩⟩
omit [TabEnv] in
theorem wk_tup {K : PySem.W.Frag} {F : Hp} {μ : List Addr} {a : Addr} {vs : List V} {ds : List D} (h : SqT K F a vs) (r : Reps K F μ vs ds) : Wk K F μ (Itt K a) ds where
  go := fun i H s hi => by
    have hj : i < vs.length := by rw [r.length]; exact hi
    exact ⟨vs, vs[i], Same.seqT s h, List.getElem?_eq_getElem hj⟩
  stop := fun i H s hi => ⟨vs, Same.seqT s h, by rw [r.length]; exact hi⟩
  yld := fun i H x H' s hi ⟨e, y⟩ => by
    obtain ⟨d, e1, r1⟩ := r.getV (y vs (Same.seqT s h))
    exact ⟨d, e1, .inl ⟨e, r1⟩⟩
omit [TabEnv] in
def rngD (lo : Int) (n : Nat) : List D := (List.range n).map fun k => .v (.int (lo + (k : Nat)))
omit [TabEnv] in
theorem wk_range {K : PySem.W.Frag} {F : Hp} {μ : List Addr} {lo : Int} {n : Nat} : Wk K F μ (Itr lo n) (rngD lo n) where
  go := fun i H s hi => by
    have : i < n := by simpa [rngD] using hi
    exact this
  stop := fun i H s hi => by
    have : n ≤ i := by simpa [rngD] using hi
    exact this
  yld := fun i H x H' s hi ⟨e, y⟩ => by
    have hi' : i < n := by simpa [rngD] using hi
    refine ⟨.v (.int (lo + (i : Nat))), ?_, .inl ⟨e, by rw [y]; exact .v _⟩⟩
    unfold rngD
    rw [List.getElem?_map, List.getElem?_range hi']
    rfl
omit [TabEnv] in
def sgnD (x : Str) : List D := x.cps.toList.map fun k => .v (.str ⟨#[k]⟩)
omit [TabEnv] in
theorem wk_str {K : PySem.W.Frag} {F : Hp} {μ : List Addr} {x : Str} : Wk K F μ (Its x) (sgnD x) where
  go := fun i H s hi => by
    have : i < x.cps.size := by simpa [sgnD] using hi
    exact this
  stop := fun i H s hi => by
    have : x.cps.size ≤ i := by simpa [sgnD] using hi
    exact this
  yld := fun i H v H' s hi ⟨e, k, y, hv⟩ => by
    refine ⟨.v (.str ⟨#[k]⟩), ?_, .inl ⟨e, by rw [hv]; exact .v _⟩⟩
    unfold sgnD
    rw [List.getElem?_map, Array.getElem?_toList, y]
    rfl
omit [TabEnv] in
def enuD (ds : List D) : List D := (List.range ds.length).map fun k => .tup [.v (.int (k : Nat)), ds.getD k (.v .non)]
omit [TabEnv] in
/-- a list, a tuple, a text -/
def iAny (K : PySem.W.Frag) (t : TE) : TI := fun σ H P => iList K t σ H P ∨ iTup K t σ H P ∨ iStr t σ H P
omit [TabEnv] in
theorem pi_any {tg l : Expr} {tl : TE} (hl : PE X l tl) : PI X tg l (iAny X.K tl) := by
  refine ⟨fun pins s σ H P I h => ?_⟩
  rcases h with h | h | h
  · exact (pi_list hl).run pins s σ H P I h
  · exact (pi_tup hl).run pins s σ H P I h
  · exact (pi_str hl).run pins s σ H P I h
omit [TabEnv] in
def seqX : D → M (List D)
  | .lst ds => M.pure ds
  | .scr ds => M.pure ds
  | .tup ds => M.pure ds
  | .v (.str x) => M.pure (sgnD x)
  | _ => M.no
theorem id_any {K : PySem.W.Frag} {tg l : Expr} {tl : TE} {dd : M D} (h : DD X W l tl dd) (hK : X.K = K := by rfl) : ID X W tg l (iAny K tl) (M.bind dd seqX) := by
  subst hK
  exact ⟨pi_any h.pe, fun Z F μ c σ H P R p => by
    cases e : dd c with
    | no =>
      unfold M.bind at p
      rw [e] at p
      exact p.elim
    | ex x c1 =>
      unfold M.bind at p
      rw [e] at p
      exact .inl (h.ev Z F μ c σ H _ R (by rw [e]; exact p))
    | ok x c1 =>
      have p1 := p.bind
      rw [e] at p1
      cases x with
      | lst ds =>
        refine .inl (h.ev Z F μ c σ H _ R (by
          rw [e]
          refine fun F' μ' H' l R' v r => ?_
          cases r with
          | lst hs rs =>
            have hq : SqL X.K F' _ _ := .of hs
            exact ⟨_, rfl, ⟨_, R'.ex.seq hq⟩, p1 F' μ' H' l R' F' μ' H' (Le.refl _ _) R' _ (wk_list hq rs)⟩))
      | scr ds =>
        refine .inl (h.ev Z F μ c σ H _ R (by
          rw [e]
          refine fun F' μ' H' l R' v r => ?_
          cases r with
          | scr hq rs => exact ⟨_, rfl, ⟨_, R'.ex.seq hq⟩, p1 F' μ' H' l R' F' μ' H' (Le.refl _ _) R' _ (wk_list hq rs)⟩))
      | tup ds =>
        refine .inr (.inl (h.ev Z F μ c σ H _ R (by
          rw [e]
          refine fun F' μ' H' l R' v r => ?_
          cases r with
          | tup hq rs => exact ⟨_, rfl, ⟨_, Same.seqT R'.ex hq⟩, p1 F' μ' H' l R' F' μ' H' (Le.refl _ _) R' _ (wk_tup hq rs)⟩)))
      | v z =>
        cases z with
        | str x =>
          refine .inr (.inr (h.ev Z F μ c σ H _ R (by
            rw [e]
            refine fun F' μ' H' l R' v r => ?_
            cases r
            exact ⟨_, rfl, p1 F' μ' H' l R' F' μ' H' (Le.refl _ _) R' _ wk_str⟩)))
        | _ =>
          unfold M.bind at p
          rw [e] at p
          exact p.elim
      | _ =>
        unfold M.bind at p
        rw [e] at p
        exact p.elim⟩
end
end My

set_option Elab.async false
set_option linter.all false
set_option maxRecDepth 100000
set_option maxHeartbeats 4000000
/-! F6: for, comprehensions, a def's promise. -/
namespace My
open PySem L2
variable [TabEnv]
section
variable {X : Cx} {W : WX} {pos : Pos} {e : Expr} {t : TE}

/-! ### range, enumerate, zip -/
omit [TabEnv] in
def rng1X (ds : List D) : M (List D) := match ds with
  | [.v (.int j)] => if -(2 ^ 62) ≤ j ∧ j.toNat < 2 ^ 62 then M.pure (rngD 0 j.toNat) else M.no
  | _ => M.no
omit [TabEnv] in
def rng2X (ds : List D) : M (List D) := match ds with
  | [.v (.int i), .v (.int j)] => if -(2 ^ 62) ≤ i ∧ i.toNat < 2 ^ 62 ∧ -(2 ^ 62) ≤ j ∧ j.toNat < 2 ^ 62 then M.pure (rngD i (j - i).toNat) else M.no
  | _ => M.no
theorem id_range1 {tg a : Expr} {ta : TA} {p : Pos} {da : M (List D)} (hg : Gl X "range") (hm : X.mg "range" = none) (ha : AD X W [a] ta da) (hs : starEach [a] X.env = [(false, eval a X.env)] := by rfl) :
    ID X W tg (.Call (.Name "range" p) [a] [] pos) (iRng1 ta) (M.bind da rng1X) :=
  ⟨pi_range1 hg hm ha.pa hs, fun Z F μ c σ H P R p => ha.ev Z F μ c σ H _ R (p.bind.imp fun ds c1 F1 μ1 H1 l1 R1 p1 vs rs => by
    unfold rng1X at p1
    split at p1
    · next j =>
      split at p1
      · next hz =>
        cases rs with
        | cons r rs =>
          cases r
          cases rs
          exact ⟨j, rfl, hz.1, by omega, p1 F1 μ1 H1 (Le.refl _ _) R1 _ wk_range⟩
      · exact p1.elim
    · exact p1.elim)⟩
omit [TabEnv] in
def enuX (ds : List D) : M (List D) := match ds with
  | [.lst es] => M.pure (enuD es)
  | [.scr es] => M.pure (enuD es)
  | _ => M.no
omit [TabEnv] in
def zipX (ds : List D) : M (List D) := match ds with
  | [.lst xs, .lst ys] => M.pure ((xs.zip ys).map fun p => .tup [p.1, p.2])
  | _ => M.no
/-! ### for -/
omit [TabEnv] in
def itF (dg : D → M Unit) (db : M Fl) : List D → M Fl
  | [] => M.pure .nx
  | d :: r => M.bind (M.ne (dg d)) fun _ => M.bind db fun f => match f with
      | .nx => itF dg db r
      | .ct => itF dg db r
      | .bk => M.pure .nx
      | .rt x => M.pure (.rt x)
omit [TabEnv] in
def dFor (di : M (List D)) (dg : D → M Unit) (db : M Fl) : M Fl := M.bind di fun ds => itF dg db ds
theorem sd_for {tg iter : Expr} {body : List Stmt} {wi : TI} {vs : List Nat} {g : TG} {tb : TS} {di : M (List D)} {dg : D → M Unit} {db : M Fl} (hp : PassesOwn (model X.prog X.w) X.A X.env X.xe) (hc : X.calm = true) (hi : ID X W tg iter wi di) (hg : GD X tg vs g dg) (hb : BD X W body tb db)
    (hs : ∀ x, foldedSetIterable iter X.env x = pure x := by intro _; rfl) : SD X W (.For tg iter body [] pos) (tFor wi g tb) (dFor di dg db) := by
  refine ⟨ps_for hp hc hi.pi hg.pg hb.ps hs, fun Z F μ c σ H D R p => hi.ev Z F μ c σ H _ R (PostS.bind p |>.imp fun ds c1 F1 μ1 H1 l1 R1 p1 J wk => ?_)⟩
  refine ⟨fun i m σ' H' => m = ds.length - i ∧ i ≤ ds.length ∧ ∃ F' μ' c', Le F1 μ1 F' μ' ∧ Rel X.K Z F' μ' c' σ' H' ∧ PostS X.K Z F' μ' W (itF dg db (ds.drop i) c') D, ⟨ds.length, by simp, Nat.zero_le _, F1, μ1, c1, Le.refl _ _, R1, p1⟩, ?_⟩
  rintro i m σ2 H2 ⟨rfl, hi2, F2, μ2, c2, l2, R2, p2⟩
  have wk2 := wk.mono l2
  by_cases hlt : i < ds.length
  · refine .inr ⟨wk2.go i H2 R2.ex hlt, fun σ' H' => ∃ F' μ' c', Le F1 μ1 F' μ' ∧ Rel X.K Z F' μ' c' σ' H' ∧ PostS X.K Z F' μ' W (itF dg db (ds.drop (i + 1)) c') D, fun σ' H' h => ⟨_, by omega, rfl, hlt, h⟩, fun x H' y => ?_⟩
    obtain ⟨d, e1, q⟩ := wk2.yld i H2 x H' R2.ex hlt y
    have ed : ds.drop i = d :: ds.drop (i + 1) := by
      rw [List.drop_eq_getElem_cons hlt]
      rw [List.getElem?_eq_getElem hlt] at e1
      rw [Option.some.inj e1]
    rw [ed] at p2
    -- the item, as it stands behind the iterator's turn
    obtain ⟨F3, l3, R3, r3⟩ : ∃ F3, Le F2 μ2 F3 μ2 ∧ Rel X.K Z F3 μ2 c2 σ2 H' ∧ Rep X.K F3 μ2 x d := by
      rcases q with ⟨rfl, r⟩ | ⟨T, us, es, h1, rfl, rfl, rfl, r⟩
      · exact ⟨F2, Le.refl _ _, R2, r⟩
      · obtain ⟨R3, l3⟩ := R2.new (o := .tup us) h1
        exact ⟨_, l3, R3, .tup (.of upd_same) (r.mono l3)⟩
    unfold itF M.bind M.ne at p2
    cases q2 : dg d c2 with
    | no => rw [q2] at p2; exact p2.elim
    | ex _ _ => rw [q2] at p2; exact p2.elim
    | ok u c3 =>
      rw [q2] at p2
      refine hg.ev Z F3 μ2 c2 σ2 H' _ x d R3 r3 ⟨c3, q2, fun σ3 R4 _ => hb.ev Z F3 μ2 c3 σ3 H' _ R4 ?_⟩
      have p3 := p2.le l3
      dsimp only at p3
      cases q3 : db c3 with
      | no => rw [q3] at p3; exact p3
      | ex _ _ => rw [q3] at p3; exact p3
      | ok f c4 =>
        rw [q3] at p3
        cases f with
        | nx => exact fun σ' F' μ' H4 l R' => ⟨F', μ', c4, (l2.trans l3).trans l, R', p3.le l⟩
        | ct => exact fun σ' F' μ' H4 l R' => ⟨F', μ', c4, (l2.trans l3).trans l, R', p3.le l⟩
        | bk => exact p3
        | rt d => exact p3
  · have e1 : ds.drop i = [] := List.drop_eq_nil_of_le (by omega)
    rw [e1] at p2
    exact .inl ⟨wk2.stop i H2 R2.ex (by omega), p2 σ2 F2 μ2 H2 (Le.refl _ _) R2⟩

/-! ### comprehensions -/
omit [TabEnv] in
def wipeD (r : List Slot) : List Nat → List Slot
  | [] => r
  | v :: vs => (wipeD r vs).set v .no
theorem rel_no {K : PySem.W.Frag} {Z F : Hp} {μ : List Addr} {c : Stt} {σ : St} {H : Hp} (h : Rel K Z F μ c σ H) (i : Nat) (y : Option V) : Rel K Z F μ ⟨c.r.set i .no, c.S⟩ (σ.set i y) H := by
  have key : ∀ (j : Nat) (z : Slot), z ≠ .no → (c.r.set i .no)[j]? = some z → j ≠ i ∧ c.r[j]? = some z := fun j z hz q => by
    by_cases hj : j = i
    · subst hj
      rw [List.getElem?_set] at q
      simp at q
      exact absurd q.2.symm hz
    · rw [List.getElem?_set_ne (Ne.symm hj)] at q; exact ⟨hj, q⟩
  refine { ex := h.ex, exz := h.exz, fz := h.fz, len := by simpa using h.len, slot := fun j y q => ?_, own := fun j m q => ?_, dis := fun j k a m m' q1 q2 e1 e2 => ?_, lm := h.lm, sto := h.sto, dst := fun j n a m q e1 e2 => ?_, ndm := h.ndm, tab := h.tab }
  · obtain ⟨hj, q⟩ := key j _ (fun z => by cases z) q
    rw [List.getElem?_set_ne (Ne.symm hj)]
    exact h.slot j y q
  · obtain ⟨hj, q⟩ := key j _ (fun z => by cases z) q
    rw [List.getElem?_set_ne (Ne.symm hj)]
    exact h.own j m q
  · obtain ⟨hj, q1⟩ := key j _ (fun z => by cases z) q1
    obtain ⟨hk, q2⟩ := key k _ (fun z => by cases z) q2
    rw [List.getElem?_set_ne (Ne.symm hj)] at e1
    rw [List.getElem?_set_ne (Ne.symm hk)] at e2
    exact h.dis j k a m m' q1 q2 e1 e2
  · obtain ⟨hj, q⟩ := key j _ (fun z => by cases z) q
    rw [List.getElem?_set_ne (Ne.symm hj)] at e1
    exact h.dst j n a m q e1 e2
theorem rel_wipe {K : PySem.W.Frag} {Z F : Hp} {μ : List Addr} {c : Stt} {σ : St} {H : Hp} (h : Rel K Z F μ c σ H) : ∀ vs : List Nat, Rel K Z F μ ⟨wipeD c.r vs, c.S⟩ (wipe σ vs) H
  | [] => h
  | v :: vs => rel_no (rel_wipe h vs) v none
omit [TabEnv] in
/-- the slots vs as they were -/
def backD (r0 r : List Slot) : List Nat → List Slot
  | [] => r
  | v :: vs => (backD r0 r vs).set v (match r0[v]? with
    | some (.d x) => .d x
    | _ => .no)
omit [TabEnv] in
theorem back_get {r0 r : List Slot} {j : Nat} {z : Slot} : ∀ {vs : List Nat}, (backD r0 r vs)[j]? = some z → (j ∈ vs ∧ (z = .no ∨ ∃ x, z = .d x ∧ r0[j]? = some (.d x))) ∨ (j ∉ vs ∧ r[j]? = some z)
  | [], q => .inr ⟨by simp, q⟩
  | v :: vs, q => by
    unfold backD at q
    by_cases hj : j = v
    · subst hj
      refine .inl ⟨List.mem_cons_self, ?_⟩
      have hl : j < (backD r0 r vs).length := by
        have := (List.getElem?_eq_some_iff.mp q).1
        simpa using this
      rw [List.getElem?_set_self hl] at q
      cases q
      split
      · next x hx => exact .inr ⟨x, rfl, hx⟩
      · exact .inl rfl
    · rw [List.getElem?_set_ne (Ne.symm hj)] at q
      rcases back_get q with ⟨h1, h2⟩ | ⟨h1, h2⟩
      · exact .inl ⟨List.mem_cons_of_mem _ h1, h2⟩
      · exact .inr ⟨fun z => by rcases List.mem_cons.mp z with z | z; exact hj z; exact h1 z, h2⟩
omit [TabEnv] in
theorem back_len {r0 r : List Slot} : ∀ vs : List Nat, (backD r0 r vs).length = r.length
  | [] => rfl
  | v :: vs => by unfold backD; rw [List.length_set, back_len vs]
theorem rel_back {K : PySem.W.Frag} {Z F F' : Hp} {μ μ' : List Addr} {c c' : Stt} {σ : St} {H H' : Hp} (h : Rel K Z F μ c σ H) (le : Le F μ F' μ') (vs : List Nat) (h' : Rel K Z F' μ' c' (wipe σ vs) H') : Rel K Z F' μ' ⟨backD c.r c'.r vs, c'.S⟩ σ H' := by
  have key : ∀ (j : Nat) (m : Cell), (backD c.r c'.r vs)[j]? = some (.own m) → c'.r[j]? = some (.own m) ∧ (wipe σ vs)[j]? = σ[j]? := fun j m q => by
    rcases back_get q with ⟨_, h2⟩ | ⟨h1, h2⟩
    · rcases h2 with h2 | ⟨x, h2, _⟩ <;> cases h2
    · exact ⟨h2, wipe_out h1⟩
  refine { ex := h'.ex, exz := h'.exz, fz := h'.fz, len := ?_, slot := fun j y q => ?_, own := fun j m q => ?_, dis := fun j k a m m' q1 q2 e1 e2 => ?_, lm := h'.lm, sto := h'.sto, dst := fun j n a m q e1 e2 => ?_, ndm := h'.ndm, tab := h'.tab }
  · have := h'.len
    rw [wipe_length] at this
    rw [this]
    exact (back_len vs).symm
  · rcases back_get q with ⟨_, h2⟩ | ⟨h1, h2⟩
    · rcases h2 with h2 | ⟨x, h2, h3⟩
      · cases h2
      · cases h2
        obtain ⟨v, e1, e2⟩ := h.slot j y h3
        exact ⟨v, e1, e2.mono le⟩
    · obtain ⟨v, e1, e2⟩ := h'.slot j y h2
      rw [wipe_out h1] at e1
      exact ⟨v, e1, e2⟩
  · obtain ⟨q1, w⟩ := key j m q
    rw [← w]
    exact h'.own j m q1
  · obtain ⟨q1, w1⟩ := key j m q1
    obtain ⟨q2, w2⟩ := key k m' q2
    rw [← w1] at e1
    rw [← w2] at e2
    exact h'.dis j k a m m' q1 q2 e1 e2
  · obtain ⟨q, w⟩ := key j m q
    rw [← w] at e1
    exact h'.dst j n a m q e1 e2
/-- an object laid aside -/
theorem rel_aside {K : PySem.W.Frag} {Z F : Hp} {μ : List Addr} {c : Stt} {σ : St} {H : Hp} {p : Addr} {o : HO} (h : Rel K Z F μ c σ H) (hp : H p = some o) (n : Nob Z F μ c σ p) (nt : ∀ ps, o ≠ .tbl ps := by intro ps z; cases z) : Rel K (upd Z p o) F μ c σ H :=
  { ex := h.ex, exz := fun a x e => (by
      by_cases ha : a = p
      · subst ha; rw [upd_same] at e; cases e; exact hp
      · rw [upd_ne ha] at e; exact h.exz a x e), fz := fun a x e => (by
      by_cases ha : a = p
      · subst ha; exact n.f
      · rw [upd_ne ha] at e; exact h.fz a x e), len := h.len, slot := h.slot, own := fun i m q => (by
      obtain ⟨a, e1, c1, g1⟩ := h.own i m q
      have : a ≠ p := fun z => by subst z; exact n.no i m q e1
      exact ⟨a, e1, ⟨by rw [upd_ne this]; exact c1.z, c1.f, c1.o, c1.l⟩, g1⟩), dis := h.dis, lm := h.lm, sto := fun k a m e1 e2 => (by
      have c1 := h.sto k a m e1 e2
      have : a ≠ p := fun z => by subst z; exact n.nm k e1
      exact ⟨by rw [upd_ne this]; exact c1.z, c1.f, c1.o, c1.l⟩), dst := h.dst, ndm := h.ndm, tab := h.tab.side fun q hq ⟨ps, ht⟩ hz => (by
      rw [upd_ne (fun z => nt ps (Option.some.inj (hp.symm.trans (by rw [← z]; exact ht))))]
      exact hz) }
/-- .. is nobody's -/
theorem aside_nob {K : PySem.W.Frag} {Z F : Hp} {μ : List Addr} {c : Stt} {σ : St} {H : Hp} {p : Addr} {o : HO} (h : Rel K (upd Z p o) F μ c σ H) (hz : Z p = none) : Rel K Z F μ c σ H ∧ Nob Z F μ c σ p ∧ H p = some o := by
  have zs : ∀ a x, Z a = some x → upd Z p o a = some x := fun a x e => by
    have : a ≠ p := fun z => by subst z; rw [hz] at e; cases e
    rw [upd_ne this]; exact e
  have zn : ∀ a, upd Z p o a = none → Z a = none ∧ a ≠ p := fun a e => by
    have : a ≠ p := fun z => by subst z; rw [upd_same] at e; cases e
    rw [upd_ne this] at e
    exact ⟨e, this⟩
  refine ⟨{ ex := h.ex, exz := fun a x e => h.exz a x (zs a x e), fz := fun a x e => h.fz a x (zs a x e), len := h.len, slot := h.slot, own := fun i m q => (by
      obtain ⟨a, e1, c1, g1⟩ := h.own i m q
      exact ⟨a, e1, ⟨(zn a c1.z).1, c1.f, c1.o, c1.l⟩, g1⟩), dis := h.dis, lm := h.lm, sto := fun k a m e1 e2 => (by
      have c1 := h.sto k a m e1 e2
      exact ⟨(zn a c1.z).1, c1.f, c1.o, c1.l⟩), dst := h.dst, ndm := h.ndm, tab := h.tab.side fun q _ _ hz => (zn _ hz).1 }, ⟨h.fz p o upd_same, hz, fun i m q e => ?_, fun k e => ?_⟩, h.exz p o upd_same⟩
  · obtain ⟨a, e1, c1, _⟩ := h.own i m q
    rw [e] at e1; cases e1
    exact (zn _ c1.z).2 rfl
  · have hk : k < c.S.length := by rw [← h.lm]; exact (List.getElem?_eq_some_iff.mp e).1
    exact (zn _ (h.sto k p _ e (List.getElem?_eq_getElem hk)).z).2 rfl
/-- .. is written -/
theorem aside_put {K : PySem.W.Frag} {Z F : Hp} {μ : List Addr} {c : Stt} {σ : St} {H : Hp} {p : Addr} {o o' : HO} (h : Rel K (upd Z p o) F μ c σ H) (hz : Z p = none) (hn : HO.noTab o := by exact noTab_lst) (hn' : ∀ ps, o' ≠ .tbl ps := by intro ps z; cases z) : Rel K (upd Z p o') F μ c σ (upd H p o') := by
  obtain ⟨h1, n, hp⟩ := aside_nob h hz
  refine rel_aside (H := upd H p o') ?_ upd_same n hn'
  have ne : ∀ {a : Addr} {x : HO}, F a = some x → a ≠ p := fun {a x} e z => by subst z; rw [n.f] at e; cases e
  refine { ex := fun a x e => (by rw [upd_ne (ne e)]; exact h1.ex a x e), exz := fun a x e => (by
      have : a ≠ p := fun z => by subst z; rw [hz] at e; cases e
      rw [upd_ne this]; exact h1.exz a x e), fz := h1.fz, len := h1.len, slot := h1.slot, own := fun i m q => (by
      obtain ⟨a, e1, c1, g1⟩ := h1.own i m q
      have : a ≠ p := fun z => by subst z; exact n.no i m q e1
      exact ⟨a, e1, ⟨c1.z, c1.f, (let ⟨u, e2, e3⟩ := c1.o; ⟨u, by rw [upd_ne this]; exact e2, e3⟩), fun g => by rw [upd_ne this]; exact c1.l g⟩, g1⟩), dis := h1.dis, lm := h1.lm, sto := fun k a m e1 e2 => (by
      have c1 := h1.sto k a m e1 e2
      have : a ≠ p := fun z => by subst z; exact n.nm k e1
      exact ⟨c1.z, c1.f, (let ⟨u, e2, e3⟩ := c1.o; ⟨u, by rw [upd_ne this]; exact e2, e3⟩), fun g => by rw [upd_ne this]; exact c1.l g⟩), dst := h1.dst, ndm := h1.ndm, tab := tabs_put h1.tab hp hn }

omit [TabEnv] in
def itL (dg : D → M Unit) (dt : M Bool) (de : M D) (vs : List Nat) (r0 : List Slot) : List D → List D → M (List D)
  | [], acc => fun c => .ok acc ⟨wipeD c.r vs, c.S⟩
  | d :: r, acc => fun c => M.bind (M.ne (dg d)) (fun _ => M.bind (M.ne dt) fun k => if k = true then M.bind (M.ne de) fun y => fun c => if acc.length < 1000000 then itL dg dt de vs r0 r (acc ++ [y]) c else .no
    else itL dg dt de vs r0 r acc) ⟨wipeD c.r vs, c.S⟩
omit [TabEnv] in
def dLc (di : M (List D)) (dg : D → M Unit) (dt : M Bool) (de : M D) (vs : List Nat) : M (List D) := M.bind di fun ds c => M.bind (itL dg dt de vs c.r ds []) (fun ys c' => .ok ys ⟨backD c.r c'.r vs, c'.S⟩) c
structure TsD (X : Cx) (W : WX) (ifs : List Expr) (t : TT) (d : M Bool) : Prop where
  pt : PTs X ifs t
  ev : EvT X.K W t d
theorem tsd_nil : TsD X W [] tYes (M.pure true) := ⟨pts_nil, fun Z F μ c σ H Q R p => p F μ H (Le.refl _ _) R⟩
theorem tsd_one {t : TT} {d : M Bool} (h : TD X W e t d) : TsD X W [e] t d := ⟨pts_one h.pt, h.ev⟩
theorem lc_ev {K : PySem.W.Frag} {W W' : WX} {wi : TI} {vs us : List Nat} {g : TG} {tt : TT} {te : TE} {di : M (List D)} {dg : D → M Unit} {dt : M Bool} {de : M D} (hi : EvI K W wi di) (eg : EvG K vs g dg) (et : EvT K W' tt dt) (ee : EvD K W' te de) (hv : ∀ j ∈ vs, j ∈ us) :
    EvN K W (tLc wi g tt te us) (dLc di dg dt de us) := fun Z F μ c σ H Q R p => by
  refine hi Z F μ c σ H _ R (p.bind.imp fun ds c1 F1 μ1 H1 l1 R1 p1 J wk A hA => ?_)
  have nA := R1.nob hA
  have zA : Z A = none := nA.z
  -- what holds between two turns
  refine ⟨fun i m H' => m = ds.length - i ∧ i ≤ ds.length ∧ ∃ F' μ' c' ws acc, Le F1 μ1 F' μ' ∧ Rel K (upd Z A (.lst ws)) F' μ' ⟨wipeD c'.r us, c'.S⟩ (wipe σ us) H' ∧ Reps K F' μ' ws acc ∧ acc.length ≤ 1000000 ∧
      Post K Z F' μ' σ W (M.bind (itL dg dt de us c1.r (ds.drop i) acc) (fun ys c' => .ok ys ⟨backD c1.r c'.r us, c'.S⟩) c') (fun ds c' F' μ' H' => ∀ p vs, H' p = some (.lst vs) → Nob Z F' μ' c' σ p → Reps K F' μ' vs ds → Q (.ref p) H'),
    ⟨ds.length, by simp, Nat.zero_le _, F1, μ1, c1, [], [], Le.refl _ _, rel_wipe (rel_aside (R1.up (same_new hA)) upd_same ?_) us, .nil, Nat.zero_le _, p1⟩, ?_⟩
  · exact nA
  rintro i m H2 ⟨rfl, hi2, F2, μ2, c2, ws, acc, l2, R2, ra, hz, p2⟩
  have wk2 := wk.mono l2
  by_cases hlt : i < ds.length
  · refine .inr ⟨wk2.go i H2 R2.ex hlt, fun H' => ∃ F' μ' c' ws acc, Le F1 μ1 F' μ' ∧ Rel K (upd Z A (.lst ws)) F' μ' ⟨wipeD c'.r us, c'.S⟩ (wipe σ us) H' ∧ Reps K F' μ' ws acc ∧ acc.length ≤ 1000000 ∧
      Post K Z F' μ' σ W (M.bind (itL dg dt de us c1.r (ds.drop (i + 1)) acc) (fun ys c' => .ok ys ⟨backD c1.r c'.r us, c'.S⟩) c') (fun ds c' F' μ' H' => ∀ p vs, H' p = some (.lst vs) → Nob Z F' μ' c' σ p → Reps K F' μ' vs ds → Q (.ref p) H'),
      fun H' h => ⟨_, by omega, rfl, hlt, h⟩, fun x H' y => ?_⟩
    obtain ⟨d, e1, q⟩ := wk2.yld i H2 x H' R2.ex hlt y
    have ed : ds.drop i = d :: ds.drop (i + 1) := by
      rw [List.drop_eq_getElem_cons hlt]
      rw [List.getElem?_eq_getElem hlt] at e1
      rw [Option.some.inj e1]
    rw [ed] at p2
    obtain ⟨F3, l3, R3, r3⟩ : ∃ F3, Le F2 μ2 F3 μ2 ∧ Rel K (upd Z A (.lst ws)) F3 μ2 ⟨wipeD c2.r us, c2.S⟩ (wipe σ us) H' ∧ Rep K F3 μ2 x d := by
      rcases q with ⟨rfl, r⟩ | ⟨T, xs, es, h1, rfl, rfl, rfl, r⟩
      · exact ⟨F2, Le.refl _ _, R2, r⟩
      · obtain ⟨R3, l3⟩ := R2.new (o := .tup xs) h1
        exact ⟨_, l3, R3, .tup (.of upd_same) (r.mono l3)⟩
    replace p2 := p2.le l3
    have ra3 := ra.mono l3
    unfold itL at p2
    unfold M.bind M.ne at p2
    dsimp only at p2
    cases q2 : dg d ⟨wipeD c2.r us, c2.S⟩ with
    | no => rw [q2] at p2; exact p2.elim
    | ex _ _ => rw [q2] at p2; exact p2.elim
    | ok u c3 =>
      rw [q2] at p2
      dsimp only at p2
      refine eg _ F3 μ2 _ (wipe σ us) H' _ x d R3 r3 ⟨c3, q2, fun σ3 R4 w3 => ?_⟩
      have ew : wipe σ3 us = wipe σ us := by
        rw [w3 us hv]
        have ww : ∀ vs : List Nat, (∀ j ∈ vs, j ∈ us) → wipe (wipe σ vs) us = wipe σ us := by
          intro vs
          induction vs with
          | nil => intro _; rfl
          | cons v vs ih =>
            intro hh
            show wipe ((wipe σ vs).set v none) us = wipe σ us
            rw [wipe_set (hh v List.mem_cons_self)]
            exact ih fun j hj => hh j (List.mem_cons_of_mem _ hj)
        exact ww us fun _ h => h
      refine ⟨ew, et _ F3 μ2 c3 σ3 H' _ R4 ?_⟩
      cases q3 : dt c3 with
      | no => rw [q3] at p2; exact p2.elim
      | ex _ _ => rw [q3] at p2; exact p2.elim
      | ok k c4 =>
        rw [q3] at p2
        dsimp only at p2
        refine fun F4 μ4 H4 l4 R5 => ?_
        replace p2 := p2.le l4
        cases k with
        | false =>
          refine ⟨F4, μ4, c4, ws, acc, (l2.trans l3).trans l4, ?_, ra3.mono l4, hz, p2⟩
          have := rel_wipe R5 us
          rw [ew] at this
          exact this
        | true =>
          rw [if_pos rfl] at p2
          show te σ3 H4 _
          refine ee _ F4 μ4 c4 σ3 H4 _ R5 ?_
          cases q4 : de c4 with
          | no => rw [q4] at p2; exact p2.elim
          | ex _ _ => rw [q4] at p2; exact p2.elim
          | ok z c5 =>
            rw [q4] at p2
            dsimp only at p2
            refine fun F5 μ5 H5 l5 R6 v rv => ?_
            replace p2 := p2.le l5
            have ra5 := (ra3.mono l4).mono l5
            obtain ⟨_, _, hA5⟩ := aside_nob R6 zA
            by_cases hz5 : acc.length < 1000000
            · rw [if_pos hz5] at p2
              have hw : ws.length < sizeLine := Nat.lt_of_lt_of_le (by rw [ra5.length]; exact hz5) (small6 (Nat.le_refl _))
              refine ⟨ws, hA5, hw, F5, μ5, c5, ws ++ [v], acc ++ [z], ((l2.trans l3).trans l4).trans l5, ?_, ra5.snoc rv, by rw [List.length_append, List.length_singleton]; exact hz5, p2⟩
              have := rel_wipe (aside_put R6 zA (o' := .lst (ws ++ [v]))) us
              rw [ew] at this
              exact this
            · rw [if_neg hz5] at p2
              exact p2.elim
  · have e1 : ds.drop i = [] := List.drop_eq_nil_of_le (by omega)
    rw [e1] at p2
    obtain ⟨R3, n3, hA3⟩ := aside_nob R2 zA
    have R4 := rel_back R1 l2 us R3
    exact .inl ⟨wk2.stop i H2 R2.ex (by omega), p2 F2 μ2 H2 (Le.refl _ _) R4 A ws hA3 ⟨n3.f, n3.z, fun j m' q e => by
      obtain ⟨a, e2, c2', _⟩ := R4.own j m' q
      rw [e] at e2; cases e2
      rcases back_get q with ⟨_, h2⟩ | ⟨h1, h2⟩
      · rcases h2 with h2 | ⟨x, h2, _⟩ <;> cases h2
      · exact n3.no j m' h2 (by rw [wipe_out h1]; exact e), n3.nm⟩ ra⟩
theorem en_lc {W' : WX} {elt tg iter : Expr} {ifs : List Expr} {scope : Scope} {own : List (Str × Nat)} {wi : TI} {vs : List Nat} {g : TG} {tt : TT} {te : TE} {di : M (List D)} {dg : D → M Unit} {dt : M Bool} {de : M D} (hc : X.calm = true) (hN : X.N.Nodup) (hi : ID X W tg iter wi di) (ok : BlkOk X.N X.env.scope scope own)
    (hg : ∀ (s : Shared) (H : Hp) (C : Addr) (cl : List (Str × Addr)) (fp : List Addr), GD (X.blk s H scope (compEnvC scope cl C X.env) fp) tg vs g dg) (ht : ∀ (s : Shared) (H : Hp) (C : Addr) (cl : List (Str × Addr)) (fp : List Addr), TsD (X.blk s H scope (compEnvC scope cl C X.env) fp) W' ifs tt dt)
    (he : ∀ (s : Shared) (H : Hp) (C : Addr) (cl : List (Str × Addr)) (fp : List Addr), DD (X.blk s H scope (compEnvC scope cl C X.env) fp) W' elt te de) (hv : ∀ j ∈ vs, j ∈ own.map (·.2) := by decide) (hs : ∀ x, foldedSetIterable iter X.env x = pure x := by intro _; rfl) :
    EN X W (.ListComp elt [⟨tg, iter, ifs, 0⟩] scope pos) (tLc wi g tt te (own.map (·.2))) (dLc di dg dt de (own.map (·.2))) := by
  have eg : EvG X.K vs g dg := (hg {} (fun _ => none) 0 [] []).ev
  have et : EvT X.K W' tt dt := (ht {} (fun _ => none) 0 [] []).ev
  have ee : EvD X.K W' te de := (he {} (fun _ => none) 0 [] []).ev
  exact ⟨pe_lc hc hN hi.pi ok (fun s H C cl fp => (hg s H C cl fp).pg) (fun s H C cl fp => (ht s H C cl fp).pt) (fun s H C cl fp => (he s H C cl fp).pe) hs, lc_ev hi.ev eg et ee hv⟩
theorem sd_setLc {W' : WX} {i : Nat} {y : Str} {py spos : Pos} {elt tg iter : Expr} {ifs : List Expr} {scope : Scope} {own : List (Str × Nat)} {wi : TI} {vs : List Nat} {g : TG} {tt : TT} {te : TE} {di : M (List D)} {dg : D → M Unit} {dt : M Bool} {de : M D} (hc : X.calm = true) (hN : X.N.Nodup) (hy : X.N[i]? = some y) (hyl : X.env.scope.names.lookup y = some .local)
    (hsw : swapsWith (.ListComp elt [⟨tg, iter, ifs, 0⟩] scope pos) (some (.Name y py)) spos.line X.env = pure true) (hi : ID X W tg iter wi di) (ok : BlkOk X.N X.env.scope scope own)
    (hg : ∀ (s : Shared) (H : Hp) (C : Addr) (cl : List (Str × Addr)) (fp : List Addr), GD (X.blk s H scope (compEnvC scope cl C X.env) fp) tg vs g dg) (ht : ∀ (s : Shared) (H : Hp) (C : Addr) (cl : List (Str × Addr)) (fp : List Addr), TsD (X.blk s H scope (compEnvC scope cl C X.env) fp) W' ifs tt dt)
    (he : ∀ (s : Shared) (H : Hp) (C : Addr) (cl : List (Str × Addr)) (fp : List Addr), DD (X.blk s H scope (compEnvC scope cl C X.env) fp) W' elt te de) (hv : ∀ j ∈ vs, j ∈ own.map (·.2) := by decide) (hs : ∀ x, foldedSetIterable iter X.env x = pure x := by intro _; rfl) :
    SD X W (.Assign [.Name y py] (.ListComp elt [⟨tg, iter, ifs, 0⟩] scope pos) spos) (tAsg (tLc wi g tt te (own.map (·.2))) (gName i)) (dSetN i (dLc di dg dt de (own.map (·.2)))) :=
  ⟨ps_setLc hc hN hy hyl hsw hi.pi ok (fun s H C cl fp => (hg s H C cl fp).pg) (fun s H C cl fp => (ht s H C cl fp).pt) (fun s H C cl fp => (he s H C cl fp).pe) hs, ev_setN (en_lc (pos := pos) hc hN hi ok hg ht he hv hs).ev⟩
end

/-! ### a def -/
omit [TabEnv] in
/-- what a body computes: n slots, k operands -/
def runD (n k : Nat) (b : M Fl) : G := fun ds S => if ds.length = k then match b ⟨ds.map .d ++ List.replicate (n - k) .no, S⟩ with
    | .ok (.rt d) c => .ok d c.S
    | .ok .nx c => .ok (.v .non) c.S
    | .ex e c => .ex e c.S
    | _ => .no
  else .no
theorem rel_start {K : PySem.W.Frag} {Z F : Hp} {μ : List Addr} {S : List Cell} {H : Hp} {vs : List V} {ds : List D} {N : List Str} {k : Nat} (h : Rel K Z F μ ⟨[], S⟩ [] H) (rs : Reps K F μ vs ds) (hk : ds.length = k) (hN : k ≤ N.length) :
    Rel K Z F μ ⟨ds.map .d ++ List.replicate (N.length - k) .no, S⟩ (L2.start N vs) H := by
  have hv : vs.length = k := by rw [rs.length]; exact hk
  have noown : ∀ (i : Nat) (m : Cell), (ds.map Slot.d ++ List.replicate (N.length - k) .no)[i]? ≠ some (.own m) := fun i m q => by
    rw [List.getElem?_append] at q
    split at q
    · rw [List.getElem?_map] at q
      cases e : ds[i]? with
      | none => rw [e] at q; cases q
      | some d => rw [e] at q; cases q
    · rw [List.getElem?_replicate] at q
      split at q <;> cases q
  refine { ex := h.ex, exz := h.exz, fz := h.fz, len := ?_, slot := fun i x q => ?_, own := fun i m q => absurd q (noown i m), dis := fun i j a m m' q => absurd q (noown i m), lm := h.lm, sto := h.sto, dst := fun i n a m q => absurd q (noown i m), ndm := h.ndm, tab := h.tab }
  · unfold L2.start
    simp [hv, hk]
  · have q : (ds.map Slot.d ++ List.replicate (N.length - k) Slot.no)[i]? = some (.d x) := q
    rw [List.getElem?_append] at q
    split at q
    · next hi =>
      rw [List.getElem?_map] at q
      cases e : ds[i]? with
      | none => rw [e] at q; cases q
      | some d =>
        rw [e] at q
        cases q
        obtain ⟨v, e1, r⟩ := rs.get e
        refine ⟨v, ?_, r⟩
        unfold L2.start
        rw [List.getElem?_append_left (by rw [List.length_map]; exact (List.getElem?_eq_some_iff.mp e1).1), List.getElem?_map, e1]
        rfl
    · rw [List.getElem?_replicate] at q
      split at q <;> cases q
theorem fn_ok {P : Program} {w : World} {K : PySem.W.Frag} {mg : Str → Option Value} {base : Heap} {x qual : Str} {st : Stmt} {f : Addr} {fd : FuncData} {N ps : List Str} {j k : Nat} {b : M Fl} (F : Fun K x qual st f fd) (S : FnScope N ps (defScope st)) (hk : ps.length = k) (hN : k ≤ N.length)
    (body : ∀ (cdv : Value) (A : Around) (outer : List Env) (s : Shared) (H : Hp) (E : XK), Room j (A.deeper (PyProof.Rows.envOfC qual (defScope st) s.heap.objs.size f cdv)) →
      ∃ t, BD (cxOf (L2N.CX P w) P w K mg base N qual (defScope st) f cdv A outer s H E) (fun cls d _ H => E cls d H) (defBody st) t b) : FnOk P w K mg base (L2N.CX P w) (j + 1) f fd ps (spG K (runD N.length k b)) := by
  refine fun_ok F S (fun vs H Q E h => ?_) (fun cdv A outer s H vs Q E hr h => ?_)
  · obtain ⟨Z, F, μ, S, ds, _, rs, p⟩ := h
    unfold runD at p
    split at p
    · next hl => rw [rs.length, hl, hk]
    · exact p.elim
  · obtain ⟨t, B⟩ := body cdv A outer s H E hr
    refine ⟨t, B.ps, ?_⟩
    obtain ⟨Z, F, μ, S, ds, R, rs, p⟩ := h
    unfold runD at p
    split at p
    · next hl =>
      refine B.ev Z F μ _ _ H _ (rel_start R rs hl hN) ?_
      have strip : ∀ {F' : Hp} {μ' : List Addr} {c : Stt} {σ' : St} {H' : Hp}, Rel K Z F' μ' c σ' H' → Rel K Z F' μ' ⟨[], c.S⟩ [] H' := fun h =>
        { ex := h.ex, exz := h.exz, fz := h.fz, len := rfl, slot := fun i x e => by simp at e, own := fun i x e => by simp at e, dis := fun i j a m m' e => by simp at e, lm := h.lm, sto := h.sto, dst := fun i n a m e => by simp at e, ndm := h.ndm, tab := h.tab }
      cases e : b ⟨ds.map .d ++ List.replicate (N.length - k) .no, S⟩ with
      | no => rw [e] at p; exact p.elim
      | ex x c => rw [e] at p; exact fun cls od σ' F' μ' H' l R' rx => p cls od F' μ' H' l (strip R') rx
      | ok fl c =>
        rw [e] at p
        cases fl with
        | nx => exact fun σ' F' μ' H' l R' => p .non F' μ' H' l (strip R') (.v _)
        | rt d => exact fun v σ' F' μ' H' l R' rv => p v F' μ' H' l (strip R') rv
        | bk => exact p.elim
        | ct => exact p.elim
    · exact p.elim
/-- another function that is no less defined -/
theorem FnOk.by {P : Program} {w : World} {K : PySem.W.Frag} {mg : Str → Option Value} {base : Heap} {CX : CXT} {k : Nat} {f : Addr} {fd : FuncData} {ps : List Str} {g g' : G} (F : FnOk P w K mg base CX k f fd ps (spG K g)) (h : ∀ ds S, g' ds S ≠ .no → g ds S = g' ds S) : FnOk P w K mg base CX k f fd ps (spG K g') :=
  L2.FnOk.imp F fun vs H Q E ⟨Z, F, μ, S, ds, R, rs, p⟩ => ⟨Z, F, μ, S, ds, R, rs, by
    have hn : g' ds S ≠ .no := fun z => by rw [z] at p; exact p
    rw [h ds S hn]
    exact p⟩
end My

set_option Elab.async false
set_option linter.all false
set_option maxRecDepth 100000
set_option maxHeartbeats 4000000
/-! F7: built-ins, slices, lists by their methods. -/
namespace My
open PySem L2
variable [TabEnv]

/-! ### lists of ints, of truths -/
omit [TabEnv] in
def intsD : List D → Option (List Int)
  | [] => some []
  | .v (.int i) :: ds => (intsD ds).map (i :: ·)
  | _ => none
omit [TabEnv] in
def blsD : List D → Option (List Bool)
  | [] => some []
  | .v (.bl b) :: ds => (blsD ds).map (b :: ·)
  | _ => none
omit [TabEnv] in
def strsD : List D → Option (List Str)
  | [] => some []
  | .v (.str x) :: ds => (strsD ds).map (x :: ·)
  | _ => none
section
variable {K : PySem.W.Frag} {F : Hp} {μ : List Addr}
omit [TabEnv] in
theorem bls_of : ∀ {ds : List D} {vs : List V} {ns : List Bool}, Reps K F μ vs ds → blsD ds = some ns → vs = ns.map V.bl
  | [], _, _, h, e => by cases h; unfold blsD at e; cases e; rfl
  | .v x :: ds, _, _, h, e => by
    cases h with
    | cons h r =>
      cases h
      cases x with
      | bl i =>
        unfold blsD at e
        cases q : blsD ds with
        | none => rw [q] at e; cases e
        | some ms => rw [q] at e; cases e; rw [bls_of r q]; rfl
      | _ => unfold blsD at e; cases e
  | .tup _ :: _, _, _, _, e => by unfold blsD at e; cases e
  | .lst _ :: _, _, _, _, e => by unfold blsD at e; cases e
  | .scr _ :: _, _, _, _, e => by unfold blsD at e; cases e
  | .dct _ :: _, _, _, _, e => by unfold blsD at e; cases e
  | .ins _ _ :: _, _, _, _, e => by unfold blsD at e; cases e
  | .loc _ :: _, _, _, _, e => by unfold blsD at e; cases e
omit [TabEnv] in
theorem strs_of : ∀ {ds : List D} {vs : List V} {ns : List Str}, Reps K F μ vs ds → strsD ds = some ns → vs = ns.map V.str
  | [], _, _, h, e => by cases h; unfold strsD at e; cases e; rfl
  | .v x :: ds, _, _, h, e => by
    cases h with
    | cons h r =>
      cases h
      cases x with
      | str i =>
        unfold strsD at e
        cases q : strsD ds with
        | none => rw [q] at e; cases e
        | some ms => rw [q] at e; cases e; rw [strs_of r q]; rfl
      | _ => unfold strsD at e; cases e
  | .tup _ :: _, _, _, _, e => by unfold strsD at e; cases e
  | .lst _ :: _, _, _, _, e => by unfold strsD at e; cases e
  | .scr _ :: _, _, _, _, e => by unfold strsD at e; cases e
  | .dct _ :: _, _, _, _, e => by unfold strsD at e; cases e
  | .ins _ _ :: _, _, _, _, e => by unfold strsD at e; cases e
  | .loc _ :: _, _, _, _, e => by unfold strsD at e; cases e
end
omit [TabEnv] in
/-- a list that may be read (no tuple) -/
def rdlD (c : Stt) : O → Option (List D)
  | .d (.scr ds) => some ds
  | o => lstD c o
theorem rdl_at {K : PySem.W.Frag} {Z F : Hp} {μ : List Addr} {c : Stt} {σ : St} {H : Hp} {v : V} {o : O} {ds : List D} (h : Rel K Z F μ c σ H) (r : RepO K F μ σ v o) (e : rdlD c o = some ds) : ∃ a vs, v = .ref a ∧ SqL K H a vs ∧ Reps K F μ vs ds := by
  unfold rdlD at e
  split at e
  · cases r with
    | d r =>
      cases r with
      | scr hq rs => cases e; exact ⟨_, _, rfl, h.ex.seq hq, rs⟩
  · obtain ⟨a, vs, e1, e2, e3⟩ := lst_at h r e
    exact ⟨a, vs, e1, .of e2, e3⟩
section
variable {K : PySem.W.Frag} {W : WX}
omit [TabEnv] in
def gSum : O → M D := fun a c => match (rdlD c a).bind intsD with
  | some ns => .ok (.v (.int ns.sum)) c
  | none => .no
omit [TabEnv] in
def gAll : O → M D := fun a c => match (rdlD c a).bind blsD with
  | some bs => .ok (.v (.bl (bs.all id))) c
  | none => .no
omit [TabEnv] in
def gAny : O → M D := fun a c => match (rdlD c a).bind blsD with
  | some bs => .ok (.v (.bl (bs.any id))) c
  | none => .no
theorem c1_any : C1S K W (rAny K) gAny := fun Z F μ c σ H Q x a R rx p => by
  unfold gAny at p
  split at p
  · next ns hn =>
    cases q : rdlD c a with
    | none => rw [q] at hn; cases hn
    | some ds =>
      rw [q] at hn
      obtain ⟨l, vs, rfl, h1, q1⟩ := rdl_at R rx q
      have := bls_of q1 hn
      subst this
      exact ⟨l, ns, rfl, h1, p F μ H (Le.refl _ _) R _ (.v _)⟩
  · exact p.elim
omit [TabEnv] in
/-- the greatest, the least of some whole numbers -/
def maxL : List Int → Int
  | [] => 0
  | [x] => x
  | x :: y :: r => if maxL (y :: r) > x then maxL (y :: r) else x
omit [TabEnv] in
def minL : List Int → Int
  | [] => 0
  | [x] => x
  | x :: y :: r => if minL (y :: r) < x then minL (y :: r) else x
omit [TabEnv] in
def gMaxL : O → M D := fun a c => match (rdlD c a).bind intsD with
  | some ns => if 0 < ns.length then .ok (.v (.int (maxL ns))) c else .no
  | none => .no
omit [TabEnv] in
def gMinL : O → M D := fun a c => match (rdlD c a).bind intsD with
  | some ns => if 0 < ns.length then .ok (.v (.int (minL ns))) c else .no
  | none => .no
omit [TabEnv] in
/-- tuple(x) -/
def gTupOf : O → M D := fun a c => match a with
  | .d (.tup ds) => .ok (.tup ds) c
  | a => match rdlD c a with
    | some ds => .ok (.tup ds) c
    | none => .no
theorem c1_tup : C1S K W (fun xs H Q => ∃ p ys, xs = [.ref p] ∧ ((SqL K H p ys ∧ ∀ l, H l = none → Q (.ref l) (upd H l (.tup ys))) ∨ (SqT K H p ys ∧ Q (.ref p) H))) gTupOf := fun Z F μ c σ H Q x a R rx p => by
  unfold gTupOf at p
  split at p
  · next ds =>
    cases rx with
    | d r =>
      have r' := r
      cases r with
      | tup hq rs => exact ⟨_, _, rfl, .inr ⟨Same.seqT R.ex hq, p F μ H (Le.refl _ _) R _ r'⟩⟩
  · split at p
    · next ds hs =>
      obtain ⟨l, vs, rfl, h1, q1⟩ := rdl_at R rx hs
      refine ⟨l, vs, rfl, .inl ⟨h1, fun q hq => ?_⟩⟩
      obtain ⟨R2, l2⟩ := R.new (o := .tup vs) hq
      exact p _ _ _ l2 R2 _ (.tup (.of upd_same) (q1.mono l2))
    · exact p.elim
end
section
variable {X : Cx} {W : WX}
theorem bAny {K : PySem.W.Frag} (hc : X.calm = true) (hK : X.K = K := by rfl) : B1 X W (.builtin "any") (rAny K) gAny := by
  subst hK
  exact ⟨cr_any hc, c1_any⟩
omit [TabEnv] in
def rTupOf (K : PySem.W.Frag) : List V → Hp → VK → Prop := fun xs H Q => ∃ p ys, xs = [.ref p] ∧ ((SqL K H p ys ∧ ∀ l, H l = none → Q (.ref l) (upd H l (.tup ys))) ∨ (SqT K H p ys ∧ Q (.ref p) H))
theorem bTup {K : PySem.W.Frag} (hK : X.K = K := by rfl) : B1 X W (.type "tuple") (rTupOf K) gTupOf := by
  subst hK
  exact ⟨call_tuple_of, c1_tup⟩
end
section
variable {X : Cx} {W : WX} {a b : Expr} {t ta tb : TE} {pos : Pos} {da db : M O}
omit [TabEnv] in
/-- list(x) -/
def dListOf (da : M O) : M (List D) := M.bind da fun a c => match seqD c a with
  | some ds => .ok ds c
  | none => .no
omit [TabEnv] in
def rListOf (K : PySem.W.Frag) : List V → Hp → VK → Prop := fun xs H Q => ∃ p ys, xs = [.ref p] ∧ (SqL K H p ys ∨ SqT K H p ys) ∧ ∀ l, H l = none → Q (.ref l) (upd H l (.lst ys))
theorem en_listOf {K : PySem.W.Frag} {p : Pos} (hg : Gl X "list") (hm : X.mg "list" = none) (hv : bootBuiltins "list" = some (.type "list")) (ha : ED X W a ta da)
    (hs : starEach [a] X.env = (false, eval a X.env) :: starEach [] X.env := by rfl)
    (he : starEach [a] X.env = (false, eval a X.env) :: starEach [] X.env := by rfl) (hpl : (backTo pos (starEach [] X.env)).any (·.1) = false := by rfl) (hK : X.K = K := by rfl) :
    EN X W (.Call (.Name "list" p) [a] [] pos) (tCB (rListOf K) (tCons ta tNil)) (dListOf da) := by
  subst hK
  exact ⟨pe_callTy call_list_of hg hm hv (pa_cons ha.pe pa_nil hs) (by decide) (by decide) he hpl, fun Z F μ c σ H Q R p => ha.ev Z F μ c σ H _ R (p.bind.imp fun o c1 F1 μ1 H1 l1 R1 p1 v1 r1 => by
    split at p1
    · next ds hs =>
      obtain ⟨l, vs, rfl, h1, q1⟩ := seq_at R1 r1 hs
      refine ⟨l, vs, rfl, h1, fun q hq => ?_⟩
      exact p1 F1 μ1 _ (Le.refl _ _) (R1.up (same_new hq)) q vs upd_same (R1.nob hq) q1
    · exact p1.elim)⟩
omit [TabEnv] in
/-- max, min of two whole numbers -/
def g2I (f : Int → Int → Int) : List D → M D := fun ds c => match ds with
  | [.v (.int i), .v (.int j)] => .ok (.v (.int (f i j))) c
  | _ => .no
omit [TabEnv] in
/-- divmod -/
def gDm : List D → M D := fun ds c => match ds with
  | [.v (.int i), .v (.int j)] => if 0 < j ∧ j.natAbs.log2 < 9000 then .ok (.tup [.v (.int (i / j)), .v (.int (i % j))]) c else .no
  | _ => .no
/-! ### slices -/
structure OD (X : Cx) (W : WX) (e : Option Expr) (t : TO) (d : M (Option Int)) : Prop where
  po : PO X e t
  ev : ∀ (Z F : Hp) (μ : List Addr) (c : Stt) (σ : St) (H : Hp) (Q : Option Int → Hp → Prop), Rel X.K Z F μ c σ H → Post X.K Z F μ σ W (d c) (fun o _ _ _ H' => Q o H') → t σ H Q
theorem od_none : OD X W none tNoPart (M.pure none) := ⟨po_none, fun Z F μ c σ H Q R p => p F μ H (Le.refl _ _) R⟩
omit [TabEnv] in
def gPart (o : O) : M (Option Int) := fun c => match o with
  | .d (.v (.int i)) => .ok (some i) c
  | _ => .no
theorem od_some (h : ED X W a ta da) : OD X W (some a) (tPart ta) (M.bind da gPart) := ⟨po_some h.pe, fun Z F μ c σ H Q R p => h.ev Z F μ c σ H _ R (p.bind.imp fun o c1 F1 μ1 H1 l1 R1 p1 v1 r1 => by
  unfold gPart at p1
  split at p1
  · cases r1 with | d r => cases r; exact ⟨_, rfl, p1 F1 μ1 H1 (Le.refl _ _) R1⟩
  · exact p1.elim)⟩
omit [TabEnv] in
def cutL {α : Type} (xs : List α) (lo hi : Option Int) : List α := (xs.drop (HT.sIx xs.length 0 lo)).take (HT.sIx xs.length xs.length hi - HT.sIx xs.length 0 lo)
omit [TabEnv] in
theorem reps_cut {K : PySem.W.Frag} {F : Hp} {μ : List Addr} {vs : List V} {ds : List D} (r : Reps K F μ vs ds) (lo hi : Option Int) : Reps K F μ (cutV vs lo hi) (cutL ds lo hi) := by
  unfold cutV cutL
  rw [r.length]
  exact (r.drop _).take _
omit [TabEnv] in
def dSlL (da : M O) (dl du : M (Option Int)) : M (List D) := M.bind da fun o => M.bind dl fun lo => M.bind du fun hi c => match rdlD c o with
  | some ds => .ok (cutL ds lo hi) c
  | none => .no
theorem en_slice {K : PySem.W.Frag} {lo hi : Option Expr} {tl th : TO} {dl du : M (Option Int)} {p2 : Pos} (h : ED X W a ta da) (hl : OD X W lo tl dl) (hu : OD X W hi th du) (hK : X.K = K := by rfl) : EN X W (.Subscript a (.Slice lo hi none p2) pos) (tSl (rSlL K) ta tl th) (dSlL da dl du) := by
  subst hK
  exact ⟨pe_slice sl_list h.pe hl.po hu.po, fun Z F μ c σ H Q R p => h.ev Z F μ c σ H _ R (p.bind.imp fun o c1 F1 μ1 H1 l1 R1 p1 v1 r1 => hl.ev Z F1 μ1 c1 σ H1 _ R1 (p1.bind.imp fun l c2 F2 μ2 H2 l2 R2 p2 => hu.ev Z F2 μ2 c2 σ H2 _ R2 (p2.bind.imp fun u c3 F3 μ3 H3 l3 R3 p3 => by
    split at p3
    · next ds hs =>
      obtain ⟨l, vs, rfl, h1, q1⟩ := rdl_at R3 ((r1.mono l2).mono l3) hs
      refine ⟨l, vs, rfl, h1, fun q hq => ?_⟩
      exact p3 F3 μ3 _ (Le.refl _ _) (R3.up (same_new hq)) q _ upd_same (R3.nob hq) (reps_cut q1 _ _)
    · exact p3.elim)))⟩
omit [TabEnv] in
def dRev (da : M O) : M (List D) := M.bind da fun o c => match rdlD c o with
  | some ds => .ok ds.reverse c
  | none => .no
/-! ### lists that are changed -/
omit [TabEnv] in
def mutD (c : Stt) : O → Option (List D)
  | .d (.loc n) => match c.S[n]? with
    | some (.lst ds) => some ds
    | _ => none
  | .sl i => match c.r[i]? with
    | some (.own (.lst ds)) => some ds
    | _ => none
  | _ => none
omit [TabEnv] in
def putL (o : O) (ds : List D) (c : Stt) : Stt := match o with
  | .d (.loc n) => ⟨c.r, c.S.set n (.lst ds)⟩
  | .sl i => ⟨c.r.set i (.own (.lst ds)), c.S⟩
  | _ => c
theorem mut_at {K : PySem.W.Frag} {Z F : Hp} {μ : List Addr} {c : Stt} {σ : St} {H : Hp} {v : V} {o : O} {ds : List D} (h : Rel K Z F μ c σ H) (r : RepO K F μ σ v o) (e : mutD c o = some ds) :
    ∃ a vs, v = .ref a ∧ H a = some (.lst vs) ∧ Reps K F μ vs ds ∧ ∀ ws es, Reps K F μ ws es → Rel K Z F μ (putL o es c) σ (upd H a (.lst ws)) := by
  unfold mutD at e
  split at e
  · next n =>
    split at e
    · next es hs =>
      cases e
      cases r with
      | d r =>
        cases r with
        | loc hn =>
          obtain ⟨_, _, ⟨u, e1, e2⟩, _⟩ := h.sto _ _ _ hn hs
          cases e2 with
          | lst r => exact ⟨_, _, rfl, e1, r, fun ws es rs => h.put hs trivial hn (.lst rs)⟩
    · cases e
  · next i =>
    split at e
    · next es hs =>
      cases e
      cases r with
      | sl r =>
        obtain ⟨a, e1, ⟨_, _, ⟨u, e2, e3⟩, _⟩, _⟩ := h.own i _ hs
        rw [r] at e1; cases e1
        cases e3 with
        | lst rs => exact ⟨_, _, rfl, e2, rs, fun ws es rs => h.write hs r (.lst rs) trivial⟩
    · cases e
  · cases e
omit [TabEnv] in
/-- o.append(e) -/
def dApp (da : M O) (de : M D) : M D := M.bind da fun o c => match mutD c o with
  | some _ => M.bind de (fun x c => match mutD c o with
      | some ds => if ds.length < 1000000 then .ok (.v .non) (putL o (ds ++ [x]) c) else .no
      | none => .no) c
  | none => .no
omit [TabEnv] in
theorem lt6 {n : Nat} (h : n < 1000000) : n < sizeLine := Nat.lt_of_lt_of_le h (by decide)
theorem dd_append {K : PySem.W.Frag} {te : TE} {de : M D} {apos : Pos} (ho : ED X W a ta da) (he : DD X W b te de)
    (hbase : attributeBase a "append" X.env (eval a X.env) = eval a X.env := by rfl)
    (hfew : ((backTo pos (starEach [b] X.env)).all (fun x => !x.1) && (backToKw pos (keywordEach [] X.env)).all (fun x => x.1.isSome)
      && decide (([b] : List Expr).length + ([] : List Keyword).length + (if ([] : List Keyword).isEmpty then 0 else 1) < 30)) = true := by rfl)
    (hline : (apos.endLine == pos.line) = true := by rfl) (hs : starEach [b] X.env = (false, eval b X.env) :: starEach [] X.env := by rfl) (hplain : (backTo pos (starEach [] X.env)).any (·.1) = false := by rfl)
    (hs2 : starEach [b] X.env = (false, eval b X.env) :: starEach [] X.env := by rfl) (hK : X.K = K := by rfl) :
    DD X W (.Call (.Attribute a "append" apos) [b] [] pos) (tBM K "list" rAppend ta (tCons te tNil)) (dApp da de) := by
  subst hK
  exact ⟨pe_bm PySem.F.plainAttrs_list PySem.F.slot_list_append PySem.F.type_list_append mt_append ho.pe (pa_cons he.pe pa_nil hs2) hbase hfew hline hs hplain, fun Z F μ c σ H Q R p => ho.ev Z F μ c σ H _ R (p.bind.imp fun o c1 F1 μ1 H1 l1 R1 p1 v1 r1 => by
    split at p1
    · next ds0 hs0 =>
      obtain ⟨a0, vs0, rfl, h0, _, _⟩ := mut_at R1 r1 hs0
      refine ⟨.inl ⟨rfl, _, .of h0⟩, he.ev Z F1 μ1 c1 σ H1 _ R1 (p1.bind.imp fun x c2 F2 μ2 H2 l2 R2 p2 v2 r2 => ?_)⟩
      split at p2
      · next ds hs =>
        split at p2
        · next hz =>
          obtain ⟨a2, vs2, e2, h2, rs, k⟩ := mut_at R2 (r1.mono l2) hs
          cases e2
          exact ⟨_, vs2, v2, rfl, rfl, h2, lt6 (by rw [rs.length]; exact hz), p2 F2 μ2 _ (Le.refl _ _) (k _ _ (rs.snoc r2)) _ (.v _)⟩
        · exact p2.elim
      · exact p2.elim
    · exact p1.elim)⟩

/-! ### isinstance, by built-in classes -/
omit [TabEnv] in
def tagD : D → Option String
  | .v .non => some "NoneType"
  | .v (.bl _) => some "bool"
  | .v (.int _) => some "int"
  | .v (.str _) => some "str"
  | .tup _ => some "tuple"
  | .lst _ => some "list"
  | .dct _ => some "dict"
  | _ => none
omit [TabEnv] in
def isiT (t c : String) : Option Bool :=
  if ["NoneType", "bool", "int", "str", "tuple", "list", "dict"].contains t && ["bool", "int", "str", "tuple", "list", "dict"].contains c then some (t == c || (t == "bool" && c == "int")) else none
omit [TabEnv] in
theorem isi_kit {K : PySem.W.Frag} {t c : String} {b : Bool} (h : isiT t c = some b) : PySem.W.kitOne K (.type t) (.type c) = some b := by
  unfold isiT at h
  split at h
  · next hh =>
    rw [Bool.and_eq_true] at hh
    have h1 : t = "NoneType" ∨ t = "bool" ∨ t = "int" ∨ t = "str" ∨ t = "tuple" ∨ t = "list" ∨ t = "dict" := by simpa using hh.1
    have h2 : c = "bool" ∨ c = "int" ∨ c = "str" ∨ c = "tuple" ∨ c = "list" ∨ c = "dict" := by simpa using hh.2
    apply kit_ty
    rw [← h]
    rcases h1 with rfl | rfl | rfl | rfl | rfl | rfl | rfl <;> rcases h2 with rfl | rfl | rfl | rfl | rfl | rfl <;> decide +kernel
  · cases h
omit [TabEnv] in
theorem ty_of {K : PySem.W.Frag} {F H : Hp} {μ : List Addr} {v : V} {d : D} {t : String} (ex : Same F H) (r : Rep K F μ v d) (e : tagD d = some t) : TyX K H v (.type t) := by
  cases r with
  | v => cases v <;> cases e <;> exact .base (by constructor)
  | tup hq rs =>
    cases e
    rcases hq with (h | ⟨o, h⟩) | ⟨o, its, n, hk, hc, _⟩
    · exact .base (.tup (ex _ _ h))
    · exact .fTuple (ex _ _ h)
    · exact .kTuple hk hc
  | lst hq rs => cases e; exact .base (.lst (ex _ _ hq))
  | dct hq _ _ => cases e; exact .base (.dK (ex _ _ hq))
  | _ => cases e
omit [TabEnv] in
def gIsi (cl : String) : D → M D := fun x c => match (tagD x).bind fun t => isiT t cl with
  | some b => .ok (.v (.bl b)) c
  | none => .no
theorem dd_isi {K : PySem.W.Frag} {x : Str} {cl : String} {p q : Pos} {dx : M D} (hg : Gl X "isinstance") (hm : X.mg "isinstance" = none) (hv : bootBuiltins "isinstance" = some (.builtin "isinstance")) (ha : DD X W a ta dx) (hg2 : Gl X x) (hm2 : X.mg x = none) (hv2 : bootBuiltins x = some (.type cl))
    (hs : starEach [a, .Name x q] X.env = (false, eval a X.env) :: starEach [.Name x q] X.env := by rfl) (hs2 : starEach [.Name x q] X.env = (false, eval (.Name x q) X.env) :: starEach [] X.env := by rfl) (hn : x ≠ "__name__" := by decide) (hdb : (x == ("__debug__" : Str)) = false := by decide)
    (he : starEach [a, .Name x q] X.env = (false, eval a X.env) :: starEach [.Name x q] X.env := by rfl) (hpl : (backTo pos (starEach [.Name x q] X.env)).any (·.1) = false := by rfl) (hK : X.K = K := by rfl) :
    DD X W (.Call (.Name "isinstance" p) [a, .Name x q] [] pos) (tCB (rIsi K) (tCons ta (tCons (tC (.ty cl)) tNil))) (M.bind dx (gIsi cl)) := by
  subst hK
  exact ⟨pe_callB call_isi hg hm hv (pa_cons ha.pe (pa_cons (pe_bltn hg2 hm2 hv2 rfl hn hdb) pa_nil hs2) hs) (by decide) (by decide) he hpl, fun Z F μ c σ H Q R p => ha.ev Z F μ c σ H _ R (p.bind.imp fun x c1 F1 μ1 H1 l1 R1 p1 v1 r1 => by
    unfold gIsi at p1
    split at p1
    · next b hb =>
      cases ht : tagD x with
      | none => rw [ht] at hb; cases hb
      | some t =>
        rw [ht] at hb
        exact ⟨v1, .ty cl, .type t, .type cl, b, rfl, .ty cl, ty_of R1.ex r1 ht, isi_kit hb, p1 F1 μ1 H1 (Le.refl _ _) R1 _ (.v _)⟩
    · exact p1.elim)⟩
end

/-! ### the defs of a text -/
omit [TabEnv] in
/-- where a def stands -/
def Has (K : PySem.W.Frag) (mg : Str → Option Value) (x qual : Str) (st : Stmt) (ps : List Str) : Prop := ∃ f fd, Fun K x qual st f fd ∧ mg x = some (.ref f) ∧ ∀ us : List Value, us.length = ps.length → bindArgs fd ⟨us, []⟩ = pure (ps.zip us)
/-- a def of that name computes g -/
def Okf (P : Program) (w : World) (K : PySem.W.Frag) (mg : Str → Option Value) (base : Heap) (k : Nat) (x : Str) (ps : List Str) (g : G) : Prop :=
  ∃ f fd, FnOk P w K mg base (L2N.CX P w) k f fd ps (spG K g) ∧ mg x = some (.ref f) ∧ PySem.W.keepIn K (.ref f) = true ∧ ∀ us : List Value, us.length = ps.length → bindArgs fd ⟨us, []⟩ = pure (ps.zip us)
section
variable {X : Cx} {W : WX} {a : Expr} {es : List Expr} {pos : Pos} {tr : TA} {dr : M (List D)}
theorem dd_fn {K : PySem.W.Frag} {k : Nat} {ps : List Str} {g : G} {x : Str} {p : Pos} (h : Okf X.prog X.w X.K X.mg X.base k x ps g) (hr : Room k X.A) (hg : Gl X x) (hx : Pol X W) (ha : AD X W (a :: es) tr dr)
    (hdb : (x == ("__debug__" : Str)) = false := by decide) (he : starEach (a :: es) X.env = (false, eval a X.env) :: starEach es X.env := by rfl) (hpl : (backTo pos (starEach es X.env)).any (·.1) = false := by rfl) (hK : X.K = K := by rfl) :
    DD X W (.Call (.Name x p) (a :: es) [] pos) (tCallS (spG K g) (WE W) tr) (dCall g dr) := by
  subst hK
  obtain ⟨f, fd, F, hm, hk, hb⟩ := h
  exact dd_call F hr hg hm hk (.all hb) hx ha hdb he hpl
end
theorem ok_has {P : Program} {w : World} {K : PySem.W.Frag} {mg : Str → Option Value} {base : Heap} {x qual : Str} {st : Stmt} {N ps : List Str} {j k : Nat} {b : M Fl} (h : Has K mg x qual st ps) (S : FnScope N ps (defScope st)) (hk : ps.length = k) (hN : k ≤ N.length)
    (body : ∀ (f : Addr) (cdv : Value) (A : Around) (outer : List Env) (s : Shared) (H : Hp) (E : XK), Room j (A.deeper (PyProof.Rows.envOfC qual (defScope st) s.heap.objs.size f cdv)) →
      ∃ t, BD (cxOf (L2N.CX P w) P w K mg base N qual (defScope st) f cdv A outer s H E) (fun cls d _ H => E cls d H) (defBody st) t b) : Okf P w K mg base (j + 1) x ps (runD N.length k b) := by
  obtain ⟨f, fd, F, hm, hb⟩ := h
  exact ⟨f, fd, fn_ok F S hk hN (body f), hm, F.kp, hb⟩
theorem Okf.by {P : Program} {w : World} {K : PySem.W.Frag} {mg : Str → Option Value} {base : Heap} {k : Nat} {x : Str} {ps : List Str} {g g' : G} (h : Okf P w K mg base k x ps g) (e : ∀ ds S, g' ds S ≠ .no → g ds S = g' ds S) : Okf P w K mg base k x ps g' := by
  obtain ⟨f, fd, F, hm, hk, hb⟩ := h
  exact ⟨f, fd, FnOk.by F e, hm, hk, hb⟩
end My

set_option Elab.async false
set_option linter.all false
set_option maxRecDepth 100000
set_option maxHeartbeats 4000000
/-! F8: the end of a law. -/
namespace My
open PySem L2
variable [TabEnv]
omit [TabEnv] in
def scr (ns : List Int) : D := .scr (ns.map fun n => .v (.int n))
omit [TabEnv] in
theorem reps_ints {K : PySem.W.Frag} {F : Hp} {μ : List Addr} : ∀ ns : List Int, Reps K F μ (ns.map V.int) (ns.map fun n => .v (.int n))
  | [] => .nil
  | n :: ns => .cons (.v _) (reps_ints ns)
omit [TabEnv] in
theorem cx_end (P : Program) (w : World) (H : Hp) (s : Shared) (e : Value) (s' : Shared) : L2N.CX P w [] H s (fun _ _ _ => False) e s' → False := fun h => by
  obtain ⟨_, _, _, _, _, _, _, _, _, _, _, _, z⟩ := h
  exact z
end My

set_option Elab.async false
set_option linter.all false
set_option maxRecDepth 100000
set_option maxHeartbeats 4000000
/-! F9: reckoning with images: loops, comprehensions, sizes. -/
namespace My
open PySem L2
variable [TabEnv]

/-! ### sizes -/
omit [TabEnv] in
theorem mulOk_l {i j : Int} (h : i.natAbs < 2 ^ 64) : mulOk i j := .inl (.inl (by omega))
omit [TabEnv] in
theorem mulOk_r {i j : Int} (h : j.natAbs < 2 ^ 64) : mulOk i j := .inl (.inr (by omega))
omit [TabEnv] in
theorem log2_lt {n k : Nat} (hk : 0 < k) (h : n < 2 ^ k) : n.log2 < k := PySem.Flt.log2_lt_of hk h
omit [TabEnv] in
theorem divOk_b {j : Int} {b : Nat} (h : j ≠ 0) (hb : j.natAbs < 2 ^ b) (h0 : 0 < b) (h9 : b ≤ 9000) : divOk j := ⟨h, Nat.lt_of_lt_of_le (log2_lt h0 hb) h9⟩
omit [TabEnv] in
theorem divOk_s {j : Int} (h : j ≠ 0) (hb : j.natAbs < 2 ^ 64) : divOk j := divOk_b h hb (by decide) (by decide)

/-! ### for -/
section
variable {dg : D → M Unit} {db : M Fl}
omit [TabEnv] in
/-- one turn after another, with something that stays -/
theorem itF_inv {Inv : Nat → Stt → Prop} : ∀ (ds : List D) (i : Nat) (c : Stt), Inv i c → (∀ (j : Nat) (d : D) (c : Stt), ds[j]? = some d → Inv (i + j) c → ∃ c1, dg d c = .ok () c1 ∧ ∃ f c2, db c1 = .ok f c2 ∧ (f = .nx ∨ f = .ct) ∧ Inv (i + j + 1) c2) →
    ∃ c', itF dg db ds c = .ok .nx c' ∧ Inv (i + ds.length) c'
  | [], i, c, h, _ => ⟨c, rfl, h⟩
  | d :: r, i, c, h, t => by
    obtain ⟨c1, e1, f, c2, e2, hf, h2⟩ := t 0 d c rfl h
    obtain ⟨c', e3, h3⟩ := itF_inv r (i + 1) c2 h2 fun j d' c' q hc => by
      have := t (j + 1) d' c' (by simpa using q) (by rw [← Nat.add_assoc, Nat.add_right_comm]; exact hc)
      simpa [Nat.add_assoc, Nat.add_comm, Nat.add_left_comm] using this
    refine ⟨c', ?_, by simpa [Nat.add_assoc, Nat.add_comm, Nat.add_left_comm] using h3⟩
    unfold itF M.bind M.ne
    rw [e1]
    dsimp only
    rw [e2]
    rcases hf with rfl | rfl <;> exact e3
end
omit [TabEnv] in
theorem itF_cons {dg : D → M Unit} {db : M Fl} {d : D} {r : List D} {c c1 : Stt} (h : dg d c = .ok () c1) : itF dg db (d :: r) c = M.bind db (fun f => match f with
    | .nx => itF dg db r
    | .ct => itF dg db r
    | .bk => M.pure .nx
    | .rt x => M.pure (.rt x)) c1 := by
  show M.bind (M.ne (dg d)) _ c = _
  have e : M.ne (dg d) c = .ok () c1 := by
    unfold M.ne
    rw [h]
  conv => lhs; unfold M.bind
  rw [e]
  rfl
omit [TabEnv] in
theorem itF_next {dg : D → M Unit} {db : M Fl} {d : D} {r : List D} {c c1 c2 : Stt} (h : dg d c = .ok () c1) (h2 : db c1 = .ok .nx c2) : itF dg db (d :: r) c = itF dg db r c2 := by
  rw [itF_cons h]
  unfold M.bind
  rw [h2]
/-! ### comprehensions -/
omit [TabEnv] in
theorem itL_map {dg : D → M Unit} {dt : M Bool} {de : M D} {vs : List Nat} {r0 : List Slot} {w : List Slot} {S : List Cell} {p : D → Bool} {f : D → D} : ∀ (ds acc : List D) (c : Stt), wipeD c.r vs = w → c.S = S → acc.length + ds.length ≤ 1000000 →
    (∀ d ∈ ds, ∃ c1, dg d ⟨w, S⟩ = .ok () c1 ∧ ∃ c2, dt c1 = .ok (p d) c2 ∧ wipeD c2.r vs = w ∧ c2.S = S ∧ (p d = true → ∃ c3, de c2 = .ok (f d) c3 ∧ wipeD c3.r vs = w ∧ c3.S = S)) →
    itL dg dt de vs r0 ds acc c = .ok (acc ++ (ds.filter p).map f) ⟨w, S⟩
  | [], acc, c, hw, hS, _, _ => by
    unfold itL
    rw [hw, hS]
    simp
  | d :: r, acc, c, hw, hS, hz, t => by
    obtain ⟨c1, e1, c2, e2, w2, s2, k⟩ := t d List.mem_cons_self
    unfold itL M.bind M.ne
    rw [hw, hS, e1]
    dsimp only
    rw [e2]
    dsimp only
    have hz' : acc.length < 1000000 := by simp at hz; omega
    cases q : p d with
    | false =>
      rw [if_neg Bool.false_ne_true]
      rw [itL_map r acc c2 w2 s2 (by simp at hz ⊢; omega) fun d' h => t d' (List.mem_cons_of_mem _ h)]
      rw [List.filter_cons, q]
      rfl
    | true =>
      obtain ⟨c3, e3, w3, s3⟩ := k q
      rw [if_pos rfl, e3]
      dsimp only
      rw [if_pos hz']
      rw [itL_map r (acc ++ [f d]) c3 w3 s3 (by simp at hz ⊢; omega) fun d' h => t d' (List.mem_cons_of_mem _ h)]
      rw [List.filter_cons, q]
      simp
/-! ### while -/
end My

set_option Elab.async false
set_option linter.all false
set_option maxRecDepth 100000
set_option maxHeartbeats 4000000
/-! F10: reckoning with images: ==, rows of numbers, texts of numbers. -/
namespace My
open PySem L2
variable [TabEnv]

omit [TabEnv] in
theorem gEq_of {neg k : Bool} {a b : O} {c : Stt} {p q : PyData} (h1 : pyO c a = some p) (h2 : pyO c b = some q) (hz : p.depth ≤ 64) (e : PyData.eqv p q = k) : gEq neg a b c = .ok (.v (.bl (if neg then !k else k))) c := by
  unfold gEq
  rw [h1, h2]
  dsimp only
  rw [if_pos hz, e]
omit [TabEnv] in
theorem gEq_datum {α : Type} [DecidableEq α] [PySem.W.Datum α] {neg : Bool} {a b : O} {c : Stt} (x y : α) (h1 : pyO c a = some (PySem.W.Datum.toD x)) (h2 : pyO c b = some (PySem.W.Datum.toD y)) (hz : PySem.W.Datum.depth α ≤ 64 := by decide) :
    gEq neg a b c = .ok (.v (.bl (if neg then !decide (x = y) else decide (x = y)))) c := gEq_of h1 h2 (Nat.le_trans (PySem.W.Datum.depth_le x) hz) (PySem.W.Datum.eqv x y)
omit [TabEnv] in
theorem gEq_int {neg : Bool} {i j : Int} {c : Stt} : gEq neg (.d (.v (.int i))) (.d (.v (.int j))) c = .ok (.v (.bl (if neg then !decide (i = j) else decide (i = j)))) c := gEq_datum i j rfl rfl
omit [TabEnv] in
theorem gEq_str {neg : Bool} {i j : Str} {c : Stt} : gEq neg (.d (.v (.str i))) (.d (.v (.str j))) c = .ok (.v (.bl (if neg then !decide (i = j) else decide (i = j)))) c := gEq_datum i j rfl rfl
omit [TabEnv] in
theorem gEq_bl {neg : Bool} {i j : Bool} {c : Stt} : gEq neg (.d (.v (.bl i))) (.d (.v (.bl j))) c = .ok (.v (.bl (if neg then !decide (i = j) else decide (i = j)))) c := gEq_datum i j rfl rfl
omit [TabEnv] in
theorem gEq_non {neg : Bool} {c : Stt} : gEq neg (.d (.v .non)) (.d (.v .non)) c = .ok (.v (.bl (!neg))) c := by
  rw [gEq_of (k := true) (p := .none) (q := .none) rfl rfl (by decide) (by simp only [PyData.eqv])]
  cases neg <;> rfl
/-! ### rows of whole numbers -/
omit [TabEnv] in
abbrev I (n : Int) : D := .v (.int n)
omit [TabEnv] in
theorem intsD_map (ns : List Int) : intsD (ns.map I) = some ns := by
  induction ns with
  | nil => rfl
  | cons n ns ih =>
    show (intsD (ns.map I)).map (n :: ·) = _
    rw [ih]
    rfl
omit [TabEnv] in
theorem intsD_eq : ∀ {ds : List D} {ns : List Int}, intsD ds = some ns → ds = ns.map I
  | [], ns, e => by unfold intsD at e; cases e; rfl
  | .v x :: ds, ns, e => by
    cases x with
    | int i =>
      unfold intsD at e
      cases q : intsD ds with
      | none => rw [q] at e; cases e
      | some ms => rw [q] at e; cases e; rw [intsD_eq q]; rfl
    | _ => unfold intsD at e; cases e
  | .tup _ :: _, _, e => by unfold intsD at e; cases e
  | .lst _ :: _, _, e => by unfold intsD at e; cases e
  | .scr _ :: _, _, e => by unfold intsD at e; cases e
  | .dct _ :: _, _, e => by unfold intsD at e; cases e
  | .ins _ _ :: _, _, e => by unfold intsD at e; cases e
  | .loc _ :: _, _, e => by unfold intsD at e; cases e
omit [TabEnv] in
theorem atI_map {α β : Type} {f : α → β} {xs : List α} {i : Int} {d : α} (h0 : 0 ≤ i) (h1 : i < xs.length) : atI (xs.map f) i = some (f (xs.getD i.toNat d)) := by
  obtain ⟨j, rfl⟩ : ∃ j : Nat, i = j := ⟨i.toNat, by omega⟩
  have hl : j < xs.length := by omega
  rw [atI_nat (j := j) (v := f xs[j]) (by rw [List.getElem?_map, List.getElem?_eq_getElem hl]; rfl)]
  simp [List.getD, List.getElem?_eq_getElem hl]
omit [TabEnv] in
theorem pyDs_ints (ns : List Int) : pyDs (ns.map I) = some (ns.map PyData.int) := by
  induction ns with
  | nil => rfl
  | cons n ns ih =>
    show pyDs (I n :: ns.map I) = _
    unfold pyDs
    rw [ih]
    rfl
omit [TabEnv] in
theorem pyO_ints {c : Stt} (ns : List Int) : pyO c (.d (.lst (ns.map I))) = some (PySem.W.Datum.toD ns) := by
  show (pyDs (ns.map I)).map PyData.list = _
  rw [pyDs_ints]
  rfl
omit [TabEnv] in
theorem gEq_ints {neg : Bool} {ns ms : List Int} {c : Stt} : gEq neg (.d (.lst (ns.map I))) (.d (.lst (ms.map I))) c = .ok (.v (.bl (if neg then !decide (ns = ms) else decide (ns = ms)))) c := gEq_datum ns ms (pyO_ints ns) (pyO_ints ms)
/-! ### texts of numbers -/
omit [TabEnv] in
theorem gEq_pair {neg : Bool} {a b x y : Int} {c : Stt} : gEq neg (.d (.tup [.v (.int a), .v (.int b)])) (.d (.tup [.v (.int x), .v (.int y)])) c = .ok (.v (.bl (if neg then !decide (a = x ∧ b = y) else decide (a = x ∧ b = y)))) c := by
  rw [gEq_datum (a, b) (x, y) rfl rfl]
  simp only [Prod.mk.injEq]
omit [TabEnv] in
/-- a list behind an operand -/
def opL (r : List Slot) (i : Nat) : O := match r[i]? with
  | some (.own (.lst ds)) => .d (.lst ds)
  | some (.d (.lst ds)) => .d (.lst ds)
  | _ => .sl i
omit [TabEnv] in
theorem pyO_opL {r : List Slot} {S : List Cell} {i : Nat} : pyO ⟨r, S⟩ (opL r i) = pyO ⟨r, S⟩ (.sl i) := by
  unfold opL
  split
  · next h =>
    conv => rhs; unfold pyO
    dsimp only
    rw [h]
    unfold pyO pyD
    rfl
  · next h =>
    conv => rhs; unfold pyO
    dsimp only
    rw [h]
    unfold pyO pyD
    rfl
  · rfl
omit [TabEnv] in
theorem gEq_sl1 {neg : Bool} {i : Nat} {b : O} {r : List Slot} {S : List Cell} : gEq neg (.sl i) b ⟨r, S⟩ = gEq neg (opL r i) b ⟨r, S⟩ := by
  unfold gEq
  rw [pyO_opL]
omit [TabEnv] in
theorem gEq_sl2 {neg : Bool} {i : Nat} {a : O} {r : List Slot} {S : List Cell} : gEq neg a (.sl i) ⟨r, S⟩ = gEq neg a (opL r i) ⟨r, S⟩ := by
  unfold gEq
  rw [pyO_opL]
/-! ### reckoning -/
omit [TabEnv] in
theorem fmod_bd {c m : Int} (h : 0 < m) : 0 ≤ c.fmod m ∧ c.fmod m < m := by
  rw [Int.fmod_eq_emod_of_nonneg _ (by omega)]
  exact ⟨Int.emod_nonneg _ (by omega), Int.emod_lt_of_pos _ h⟩
omit [TabEnv] in
theorem atI_fmod {α β : Type} {f : α → β} {xs : List α} {c m : Int} {d : α} (hm : (xs.length : Int) = m) (h : 0 < m) : atI (xs.map f) (c.fmod m) = some (f (xs.getD (c.fmod m).toNat d)) :=
  atI_map (fmod_bd h).1 (by rw [hm]; exact (fmod_bd h).2)
omit [TabEnv] in
theorem dFor_of {di : M (List D)} {dg : D → M Unit} {db : M Fl} {c c0 : Stt} {ds : List D} (h : di c = .ok ds c0) : dFor di dg db c = itF dg db ds c0 := by
  unfold dFor M.bind
  rw [h]
omit [TabEnv] in
theorem cutL_map {α β : Type} (f : α → β) (xs : List α) (lo hi : Option Int) : cutL (xs.map f) lo hi = (cutL xs lo hi).map f := by
  unfold cutL
  rw [List.length_map, List.map_take, List.map_drop]
omit [TabEnv] in
theorem isi_NoneType_bool : isiT "NoneType" "bool" = some false := by decide +kernel
omit [TabEnv] in
theorem isi_NoneType_int : isiT "NoneType" "int" = some false := by decide +kernel
omit [TabEnv] in
theorem isi_NoneType_str : isiT "NoneType" "str" = some false := by decide +kernel
omit [TabEnv] in
theorem isi_NoneType_tuple : isiT "NoneType" "tuple" = some false := by decide +kernel
omit [TabEnv] in
theorem isi_NoneType_list : isiT "NoneType" "list" = some false := by decide +kernel
omit [TabEnv] in
theorem isi_NoneType_dict : isiT "NoneType" "dict" = some false := by decide +kernel
omit [TabEnv] in
theorem isi_bool_bool : isiT "bool" "bool" = some true := by decide +kernel
omit [TabEnv] in
theorem isi_bool_int : isiT "bool" "int" = some true := by decide +kernel
omit [TabEnv] in
theorem isi_bool_str : isiT "bool" "str" = some false := by decide +kernel
omit [TabEnv] in
theorem isi_bool_tuple : isiT "bool" "tuple" = some false := by decide +kernel
omit [TabEnv] in
theorem isi_bool_list : isiT "bool" "list" = some false := by decide +kernel
omit [TabEnv] in
theorem isi_bool_dict : isiT "bool" "dict" = some false := by decide +kernel
omit [TabEnv] in
theorem isi_int_bool : isiT "int" "bool" = some false := by decide +kernel
omit [TabEnv] in
theorem isi_int_int : isiT "int" "int" = some true := by decide +kernel
omit [TabEnv] in
theorem isi_int_str : isiT "int" "str" = some false := by decide +kernel
omit [TabEnv] in
theorem isi_int_tuple : isiT "int" "tuple" = some false := by decide +kernel
omit [TabEnv] in
theorem isi_int_list : isiT "int" "list" = some false := by decide +kernel
omit [TabEnv] in
theorem isi_int_dict : isiT "int" "dict" = some false := by decide +kernel
omit [TabEnv] in
theorem isi_str_bool : isiT "str" "bool" = some false := by decide +kernel
omit [TabEnv] in
theorem isi_str_int : isiT "str" "int" = some false := by decide +kernel
omit [TabEnv] in
theorem isi_str_str : isiT "str" "str" = some true := by decide +kernel
omit [TabEnv] in
theorem isi_str_tuple : isiT "str" "tuple" = some false := by decide +kernel
omit [TabEnv] in
theorem isi_str_list : isiT "str" "list" = some false := by decide +kernel
omit [TabEnv] in
theorem isi_str_dict : isiT "str" "dict" = some false := by decide +kernel
omit [TabEnv] in
theorem isi_tuple_bool : isiT "tuple" "bool" = some false := by decide +kernel
omit [TabEnv] in
theorem isi_tuple_int : isiT "tuple" "int" = some false := by decide +kernel
omit [TabEnv] in
theorem isi_tuple_str : isiT "tuple" "str" = some false := by decide +kernel
omit [TabEnv] in
theorem isi_tuple_tuple : isiT "tuple" "tuple" = some true := by decide +kernel
omit [TabEnv] in
theorem isi_tuple_list : isiT "tuple" "list" = some false := by decide +kernel
omit [TabEnv] in
theorem isi_tuple_dict : isiT "tuple" "dict" = some false := by decide +kernel
omit [TabEnv] in
theorem isi_list_bool : isiT "list" "bool" = some false := by decide +kernel
omit [TabEnv] in
theorem isi_list_int : isiT "list" "int" = some false := by decide +kernel
omit [TabEnv] in
theorem isi_list_str : isiT "list" "str" = some false := by decide +kernel
omit [TabEnv] in
theorem isi_list_tuple : isiT "list" "tuple" = some false := by decide +kernel
omit [TabEnv] in
theorem isi_list_list : isiT "list" "list" = some true := by decide +kernel
omit [TabEnv] in
theorem isi_list_dict : isiT "list" "dict" = some false := by decide +kernel
omit [TabEnv] in
theorem isi_dict_bool : isiT "dict" "bool" = some false := by decide +kernel
omit [TabEnv] in
theorem isi_dict_int : isiT "dict" "int" = some false := by decide +kernel
omit [TabEnv] in
theorem isi_dict_str : isiT "dict" "str" = some false := by decide +kernel
omit [TabEnv] in
theorem isi_dict_tuple : isiT "dict" "tuple" = some false := by decide +kernel
omit [TabEnv] in
theorem isi_dict_list : isiT "dict" "list" = some false := by decide +kernel
omit [TabEnv] in
theorem isi_dict_dict : isiT "dict" "dict" = some true := by decide +kernel
end My

set_option Elab.async false
set_option linter.all false
set_option maxRecDepth 100000
set_option maxHeartbeats 4000000
/-! F11: lists of the store: made, changed, walked. -/
namespace My
open PySem L2
variable [TabEnv]
section
variable {X : Cx} {W : WX} {a b e : Expr} {t ta tb : TE} {pos : Pos} {da db : M O}
omit [TabEnv] in
/-- a new list, put into the store -/
def dSt (dn : M (List D)) : M D := M.bind dn fun ds c => .ok (.loc c.S.length) ⟨c.r, c.S ++ [.lst ds]⟩
theorem dd_st {dn : M (List D)} (h : EN X W e t dn) : DD X W e t (dSt dn) := ⟨h.pe, fun Z F μ c σ H Q R p => h.ev Z F μ c σ H _ R (p.bind.imp fun ds c1 F1 μ1 H1 l1 R1 p1 q vs hq nb rs => by
  obtain ⟨R2, l2⟩ := R1.push (m := .lst ds) hq nb.f nb.z nb.no nb.nm (.lst (rs.mono ⟨Same.refl _, fun n x h => by
    have hn : n < μ1.length := (List.getElem?_eq_some_iff.mp h).1
    rw [List.getElem?_append_left hn]
    exact h⟩))
  refine p1 F1 _ H1 l2 R2 _ (.loc ?_)
  have : μ1.length = c1.S.length := R1.lm
  rw [← this]
  simp)⟩
omit [TabEnv] in
/-- xs[i] = e, of a list -/
def dPut (dv : M D) (dob : M O) (di : M D) : M Fl := M.bind dv fun x => M.bind dob fun o => M.bind di fun k c => match k with
  | .v (.int i) => match mutD c o with
    | some ds => match ixN ds.length i with
      | some j => .ok .nx (putL o (ds.set j x) c)
      | none => .no
    | none => .no
  | _ => .no
theorem sd_put {o i : Expr} {to ti : TE} {pos' : Pos} {dv di : M D} {dob : M O} (hv : DD X W e t dv) (ho : ED X W o to dob) (hi : DD X W i ti di) (hs : swapsWithSole [.Subscript o i pos'] e pos.line X.env = pure false := by rfl) (hw : swappedStores [.Subscript o i pos'] e X.env = pure none := by rfl)
    (h1 : (assignEach [.Subscript o i pos'] X.env).map (·.2) = [assign (.Subscript o i pos') X.env] := by rfl) (ha : ∀ v, assign (.Subscript o i pos') X.env v = (do
      let ov ← holding [v] (eval o X.env)
      let iv ← holding [v, ov] (eval i X.env)
      standAt pos'
      holding [v, ov, iv] (setItem ov iv v)
      release [v, ov, iv] []) := by intro _; rfl) : SD X W (.Assign [.Subscript o i pos'] e pos) (tAsg t (gSub to ti rSetL)) (dPut dv dob di) :=
  ⟨ps_asg hv.pe (pg_sub ho.pe hi.pe set_list ha) hs hw h1, fun Z F μ c σ H D R p => hv.ev Z F μ c σ H _ R (p.bind.imp fun y c1 F1 μ1 H1 l1 R1 p1 v r => ho.ev Z F1 μ1 c1 σ H1 _ R1 (p1.bind.imp fun oo c2 F2 μ2 H2 l2 R2 p2 ov ro => hi.ev Z F2 μ2 c2 σ H2 _ R2 (p2.bind.imp fun k c3 F3 μ3 H3 l3 R3 p3 iv ri => by
    split at p3
    · next z =>
      split at p3
      · next ds hs =>
        split at p3
        · next j hj =>
          cases ri
          obtain ⟨l, vs, rfl, h1, rs, kk⟩ := mut_at R3 (ro.mono l3) hs
          exact ⟨l, vs, z, j, rfl, rfl, h1, by rw [rs.length]; exact hj, p3 _ F3 μ3 _ (Le.refl _ _) (kk _ _ (Reps.set ((r.mono l2).mono l3) j rs))⟩
        · exact p3.elim
      · exact p3.elim
    · exact p3.elim)))⟩
end
/-! ### walking a list of the store that stays as it is meanwhile -/
open Classical in
omit [TabEnv] in
noncomputable def itG (n : Nat) (es : List D) (dg : D → M Unit) (db : M Fl) : List D → M Fl
  | [] => fun c => if c.S[n]? = some (.lst es) then .ok .nx c else .no
  | d :: r => fun c => if c.S[n]? = some (.lst es) then M.bind (M.ne (dg d)) (fun _ => M.bind db fun f => match f with
      | .nx => itG n es dg db r
      | .ct => itG n es dg db r
      | .bk => M.pure .nx
      | .rt x => M.pure (.rt x)) c else .no
omit [TabEnv] in
noncomputable def dForX (dg : D → M Unit) (db : M Fl) (x : D) : M Fl := match x with
  | .loc n => fun c => match c.S[n]? with
    | some (.lst es) => itG n es dg db es c
    | _ => .no
  | x => M.bind (seqX x) fun ds => itF dg db ds
omit [TabEnv] in
noncomputable def dForA (dd : M D) (dg : D → M Unit) (db : M Fl) : M Fl := M.bind dd (dForX dg db)
section
variable {X : Cx} {W : WX} {e : Expr} {t : TE} {pos : Pos}
theorem loc_at {K : PySem.W.Frag} {Z F : Hp} {μ : List Addr} {c : Stt} {σ : St} {H : Hp} {n : Nat} {a : Addr} {es : List D} (R : Rel K Z F μ c σ H) (h : μ[n]? = some a) (hs : c.S[n]? = some (.lst es)) : ∃ vs, H a = some (.lst vs) ∧ Reps K F μ vs es := by
  obtain ⟨_, _, ⟨u, e1, e2⟩, _⟩ := R.sto _ _ _ h hs
  cases e2 with
  | lst r => exact ⟨_, e1, r⟩
theorem sd_forA {tg iter : Expr} {body : List Stmt} {tl : TE} {vs : List Nat} {g : TG} {tb : TS} {dd : M D} {dg : D → M Unit} {db : M Fl} (hp : PassesOwn (model X.prog X.w) X.A X.env X.xe) (hc : X.calm = true) (hi : DD X W iter tl dd) (hg : GD X tg vs g dg) (hb : BD X W body tb db)
    (hs : ∀ x, foldedSetIterable iter X.env x = pure x := by intro _; rfl) : SD X W (.For tg iter body [] pos) (tFor (iAny X.K tl) g tb) (dForA dd dg db) := by
  refine ⟨ps_for hp hc (pi_any hi.pe) hg.pg hb.ps hs, fun Z F μ c σ H D R p => ?_⟩
  by_cases hl : ∃ n c1, dd c = .ok (.loc n) c1
  · obtain ⟨n, c0, e0⟩ := hl
    refine .inl (hi.ev Z F μ c σ H _ R ?_)
    unfold dForA at p
    have p1 := PostS.bind (σ := σ) p
    rw [e0] at p1 ⊢
    refine fun F1 μ1 H1 l1 R1 v rv => ?_
    cases rv with
    | @loc a _ hn =>
      have p2 := p1 F1 μ1 H1 l1 R1
      unfold dForX at p2
      dsimp only at p2
      cases hes : c0.S[n]? with
      | none => rw [hes] at p2; exact p2.elim
      | some m =>
      rw [hes] at p2
      cases m with
      | lst es =>
        dsimp only at p2
        obtain ⟨ws, hws, _⟩ := loc_at R1 hn hes
        refine ⟨_, rfl, ⟨ws, .of hws⟩, ?_⟩
        refine ⟨fun i m σ' H' => m = es.length - i ∧ i ≤ es.length ∧ ∃ F' μ' c', Le F1 μ1 F' μ' ∧ Rel X.K Z F' μ' c' σ' H' ∧ PostS X.K Z F' μ' W (itG n es dg db (es.drop i) c') D, ⟨es.length, by simp, Nat.zero_le _, F1, μ1, c0, Le.refl _ _, R1, p2⟩, ?_⟩
        rintro i m σ2 H2 ⟨rfl, hi2, F2, μ2, c2, l2, R2, p2⟩
        by_cases hg2 : c2.S[n]? = some (.lst es)
        · obtain ⟨us, hus, rs⟩ := loc_at R2 (l2.mu _ _ hn) hg2
          by_cases hlt : i < es.length
          · have hj : i < us.length := by rw [rs.length]; exact hlt
            refine .inr ⟨⟨us, us[i], .of hus, List.getElem?_eq_getElem hj⟩, fun σ' H' => ∃ F' μ' c', Le F1 μ1 F' μ' ∧ Rel X.K Z F' μ' c' σ' H' ∧ PostS X.K Z F' μ' W (itG n es dg db (es.drop (i + 1)) c') D, fun σ' H' h => ⟨_, by omega, rfl, hlt, h⟩, fun x H' y => ?_⟩
            obtain ⟨rfl, y⟩ := y
            obtain ⟨d, e1, r3⟩ := rs.getV (y us (.of hus))
            have ed : es.drop i = d :: es.drop (i + 1) := by
              rw [List.drop_eq_getElem_cons hlt]
              rw [List.getElem?_eq_getElem hlt] at e1
              rw [Option.some.inj e1]
            rw [ed] at p2
            unfold itG at p2
            rw [if_pos hg2] at p2
            unfold M.bind M.ne at p2
            cases q2 : dg d c2 with
            | no => rw [q2] at p2; exact p2.elim
            | ex _ _ => rw [q2] at p2; exact p2.elim
            | ok u c3 =>
              rw [q2] at p2
              refine hg.ev Z F2 μ2 c2 σ2 H' _ x d R2 r3 ⟨c3, q2, fun σ3 R4 _ => hb.ev Z F2 μ2 c3 σ3 H' _ R4 ?_⟩
              dsimp only at p2
              cases q3 : db c3 with
              | no => rw [q3] at p2; exact p2
              | ex _ _ => rw [q3] at p2; exact p2
              | ok f c4 =>
                rw [q3] at p2
                cases f with
                | nx => exact fun σ' F' μ' H4 l R' => ⟨F', μ', c4, l2.trans l, R', p2.le l⟩
                | ct => exact fun σ' F' μ' H4 l R' => ⟨F', μ', c4, l2.trans l, R', p2.le l⟩
                | bk => exact p2
                | rt d => exact p2
          · have e1 : es.drop i = [] := List.drop_eq_nil_of_le (by omega)
            rw [e1] at p2
            unfold itG at p2
            rw [if_pos hg2] at p2
            exact .inl ⟨⟨us, .of hus, by rw [rs.length]; omega⟩, p2 σ2 F2 μ2 H2 (Le.refl _ _) R2⟩
        · have : itG n es dg db (es.drop i) c2 = .no := by
            cases es.drop i <;> unfold itG <;> rw [if_neg hg2]
          rw [this] at p2
          exact p2.elim
      | _ => exact p2.elim
  · refine (sd_for (pos := pos) hp hc (id_any hi) hg hb hs).ev Z F μ c σ H D R ?_
    have e : dFor (M.bind dd seqX) dg db c = dForA dd dg db c := by
      unfold dFor dForA M.bind
      cases q : dd c with
      | ok x c1 =>
        cases x with
        | loc n => exact absurd ⟨n, c1, q⟩ hl
        | _ => rfl
      | _ => rfl
    rw [e]
    exact p
/-! comprehensions -/
open Classical in
omit [TabEnv] in
noncomputable def itLG (n : Nat) (es : List D) (dg : D → M Unit) (dt : M Bool) (de : M D) (vs : List Nat) (r0 : List Slot) : List D → List D → M (List D)
  | [], acc => fun c => if c.S[n]? = some (.lst es) then .ok acc ⟨wipeD c.r vs, c.S⟩ else .no
  | d :: r, acc => fun c => if c.S[n]? = some (.lst es) then M.bind (M.ne (dg d)) (fun _ => M.bind (M.ne dt) fun k => if k = true then M.bind (M.ne de) fun y => fun c => if acc.length < 1000000 then itLG n es dg dt de vs r0 r (acc ++ [y]) c else .no
    else itLG n es dg dt de vs r0 r acc) ⟨wipeD c.r vs, c.S⟩ else .no
omit [TabEnv] in
noncomputable def dLcX (dg : D → M Unit) (dt : M Bool) (de : M D) (vs : List Nat) (x : D) : M (List D) := match x with
  | .loc n => fun c => match c.S[n]? with
    | some (.lst es) => M.bind (itLG n es dg dt de vs c.r es []) (fun ys c' => .ok ys ⟨backD c.r c'.r vs, c'.S⟩) c
    | _ => .no
  | x => dLc (seqX x) dg dt de vs
omit [TabEnv] in
noncomputable def dLcA (dd : M D) (dg : D → M Unit) (dt : M Bool) (de : M D) (vs : List Nat) : M (List D) := M.bind dd (dLcX dg dt de vs)
theorem en_lcA {W' : WX} {elt tg iter : Expr} {ifs : List Expr} {scope : Scope} {own : List (Str × Nat)} {tl : TE} {vs : List Nat} {g : TG} {tt : TT} {te : TE} {dd : M D} {dg : D → M Unit} {dt : M Bool} {de : M D} (hc : X.calm = true) (hN : X.N.Nodup) (hi : DD X W iter tl dd) (ok : BlkOk X.N X.env.scope scope own)
    (hg : ∀ (s : Shared) (H : Hp) (C : Addr) (cl : List (Str × Addr)) (fp : List Addr), GD (X.blk s H scope (compEnvC scope cl C X.env) fp) tg vs g dg) (ht : ∀ (s : Shared) (H : Hp) (C : Addr) (cl : List (Str × Addr)) (fp : List Addr), TsD (X.blk s H scope (compEnvC scope cl C X.env) fp) W' ifs tt dt)
    (he : ∀ (s : Shared) (H : Hp) (C : Addr) (cl : List (Str × Addr)) (fp : List Addr), DD (X.blk s H scope (compEnvC scope cl C X.env) fp) W' elt te de) (hv : ∀ j ∈ vs, j ∈ own.map (·.2) := by decide) (hs : ∀ x, foldedSetIterable iter X.env x = pure x := by intro _; rfl) :
    EN X W (.ListComp elt [⟨tg, iter, ifs, 0⟩] scope pos) (tLc (iAny X.K tl) g tt te (own.map (·.2))) (dLcA dd dg dt de (own.map (·.2))) := by
  have eg : EvG X.K vs g dg := (hg {} (fun _ => none) 0 [] []).ev
  have et : EvT X.K W' tt dt := (ht {} (fun _ => none) 0 [] []).ev
  have ee : EvD X.K W' te de := (he {} (fun _ => none) 0 [] []).ev
  refine ⟨pe_lc hc hN (pi_any hi.pe) ok (fun s H C cl fp => (hg s H C cl fp).pg) (fun s H C cl fp => (ht s H C cl fp).pt) (fun s H C cl fp => (he s H C cl fp).pe) hs, fun Z F μ c σ H Q R p => ?_⟩
  by_cases hl : ∃ n c1, dd c = .ok (.loc n) c1
  · obtain ⟨n, c1, e0⟩ := hl
    generalize own.map (·.2) = us at hv p ⊢
    refine .inl (hi.ev Z F μ c σ H _ R ?_)
    unfold dLcA at p
    have pp := Post.bind (σ := σ) p
    rw [e0] at pp ⊢
    refine fun F1 μ1 H1 l1 R1 v rv => ?_
    cases rv with
    | loc hn =>
      have p1 := pp F1 μ1 H1 l1 R1
      unfold dLcX at p1
      dsimp only at p1
      cases hes : c1.S[n]? with
      | none => rw [hes] at p1; exact p1.elim
      | some m =>
      rw [hes] at p1
      cases m with
      | lst es =>
        dsimp only at p1
        obtain ⟨ls, hls, _⟩ := loc_at R1 hn hes
        refine ⟨_, rfl, ⟨ls, .of hls⟩, ?_⟩
        intro A hA
        have nA := R1.nob hA
        have zA : Z A = none := nA.z
        refine ⟨fun i m H' => m = es.length - i ∧ i ≤ es.length ∧ ∃ F' μ' c' ws acc, Le F1 μ1 F' μ' ∧ Rel X.K (upd Z A (.lst ws)) F' μ' ⟨wipeD c'.r us, c'.S⟩ (wipe σ us) H' ∧ Reps X.K F' μ' ws acc ∧ acc.length ≤ 1000000 ∧
            Post X.K Z F' μ' σ W (M.bind (itLG n es dg dt de us c1.r (es.drop i) acc) (fun ys c' => .ok ys ⟨backD c1.r c'.r us, c'.S⟩) c') (fun ds c' F' μ' H' => ∀ p vs, H' p = some (.lst vs) → Nob Z F' μ' c' σ p → Reps X.K F' μ' vs ds → Q (.ref p) H'),
          ⟨es.length, by simp, Nat.zero_le _, F1, μ1, c1, [], [], Le.refl _ _, rel_wipe (rel_aside (R1.up (same_new hA)) upd_same nA) us, .nil, Nat.zero_le _, p1⟩, ?_⟩
        rintro i m H2 ⟨rfl, hi2, F2, μ2, c2, ws, acc, l2, R2, ra, hz, p2⟩
        by_cases hg2 : c2.S[n]? = some (.lst es)
        · obtain ⟨xs, hxs, rs⟩ := loc_at R2 (l2.mu _ _ hn) hg2
          by_cases hlt : i < es.length
          · have hj : i < xs.length := by rw [rs.length]; exact hlt
            refine .inr ⟨⟨xs, xs[i], .of hxs, List.getElem?_eq_getElem hj⟩, fun H' => ∃ F' μ' c' ws acc, Le F1 μ1 F' μ' ∧ Rel X.K (upd Z A (.lst ws)) F' μ' ⟨wipeD c'.r us, c'.S⟩ (wipe σ us) H' ∧ Reps X.K F' μ' ws acc ∧ acc.length ≤ 1000000 ∧
              Post X.K Z F' μ' σ W (M.bind (itLG n es dg dt de us c1.r (es.drop (i + 1)) acc) (fun ys c' => .ok ys ⟨backD c1.r c'.r us, c'.S⟩) c') (fun ds c' F' μ' H' => ∀ p vs, H' p = some (.lst vs) → Nob Z F' μ' c' σ p → Reps X.K F' μ' vs ds → Q (.ref p) H'),
              fun H' h => ⟨_, by omega, rfl, hlt, h⟩, fun x H' y => ?_⟩
            obtain ⟨rfl, y⟩ := y
            obtain ⟨d, e1, r3⟩ := rs.getV (y xs (.of hxs))
            have ed : es.drop i = d :: es.drop (i + 1) := by
              rw [List.drop_eq_getElem_cons hlt]
              rw [List.getElem?_eq_getElem hlt] at e1
              rw [Option.some.inj e1]
            rw [ed] at p2
            unfold itLG at p2
            unfold M.bind M.ne at p2
            dsimp only at p2
            rw [if_pos hg2] at p2
            cases q2 : dg d ⟨wipeD c2.r us, c2.S⟩ with
            | no => rw [q2] at p2; exact p2.elim
            | ex _ _ => rw [q2] at p2; exact p2.elim
            | ok u c3 =>
              rw [q2] at p2
              dsimp only at p2
              refine eg _ F2 μ2 _ (wipe σ us) H' _ x d R2 r3 ⟨c3, q2, fun σ3 R4 w3 => ?_⟩
              have ew : wipe σ3 us = wipe σ us := by
                rw [w3 us hv]
                have ww : ∀ vs : List Nat, (∀ j ∈ vs, j ∈ us) → wipe (wipe σ vs) us = wipe σ us := by
                  intro vs
                  induction vs with
                  | nil => intro _; rfl
                  | cons v vs ih =>
                    intro hh
                    show wipe ((wipe σ vs).set v none) us = wipe σ us
                    rw [wipe_set (hh v List.mem_cons_self)]
                    exact ih fun j hj => hh j (List.mem_cons_of_mem _ hj)
                exact ww us fun _ h => h
              refine ⟨ew, et _ F2 μ2 c3 σ3 H' _ R4 ?_⟩
              cases q3 : dt c3 with
              | no => rw [q3] at p2; exact p2.elim
              | ex _ _ => rw [q3] at p2; exact p2.elim
              | ok k c4 =>
                rw [q3] at p2
                dsimp only at p2
                refine fun F4 μ4 H4 l4 R5 => ?_
                replace p2 := p2.le l4
                cases k with
                | false =>
                  refine ⟨F4, μ4, c4, ws, acc, l2.trans l4, ?_, ra.mono l4, hz, p2⟩
                  have := rel_wipe R5 us
                  rw [ew] at this
                  exact this
                | true =>
                  rw [if_pos rfl] at p2
                  show te σ3 H4 _
                  refine ee _ F4 μ4 c4 σ3 H4 _ R5 ?_
                  cases q4 : de c4 with
                  | no => rw [q4] at p2; exact p2.elim
                  | ex _ _ => rw [q4] at p2; exact p2.elim
                  | ok z c5 =>
                    rw [q4] at p2
                    dsimp only at p2
                    refine fun F5 μ5 H5 l5 R6 v rv => ?_
                    replace p2 := p2.le l5
                    have ra5 := (ra.mono l4).mono l5
                    obtain ⟨_, _, hA5⟩ := aside_nob R6 zA
                    by_cases hz5 : acc.length < 1000000
                    · rw [if_pos hz5] at p2
                      have hw : ws.length < sizeLine := Nat.lt_of_lt_of_le (by rw [ra5.length]; exact hz5) (small6 (Nat.le_refl _))
                      refine ⟨ws, hA5, hw, F5, μ5, c5, ws ++ [v], acc ++ [z], (l2.trans l4).trans l5, ?_, ra5.snoc rv, by rw [List.length_append, List.length_singleton]; exact hz5, p2⟩
                      have := rel_wipe (aside_put R6 zA (o' := .lst (ws ++ [v]))) us
                      rw [ew] at this
                      exact this
                    · rw [if_neg hz5] at p2
                      exact p2.elim
          · have e1 : es.drop i = [] := List.drop_eq_nil_of_le (by omega)
            rw [e1] at p2
            unfold itLG at p2
            unfold M.bind at p2
            dsimp only at p2
            rw [if_pos hg2] at p2
            obtain ⟨R3, n3, hA3⟩ := aside_nob R2 zA
            have R4 := rel_back R1 l2 us R3
            exact .inl ⟨⟨xs, .of hxs, by rw [rs.length]; omega⟩, p2 F2 μ2 H2 (Le.refl _ _) R4 A ws hA3 ⟨n3.f, n3.z, fun j m' q e => by
              obtain ⟨a, e2, c2', _⟩ := R4.own j m' q
              rw [e] at e2; cases e2
              rcases back_get q with ⟨_, h2⟩ | ⟨h1, h2⟩
              · rcases h2 with h2 | ⟨x, h2, _⟩ <;> cases h2
              · exact n3.no j m' h2 (by rw [wipe_out h1]; exact e), n3.nm⟩ ra⟩
        · have : itLG n es dg dt de us c1.r (es.drop i) acc c2 = .no := by
            cases es.drop i <;> unfold itLG <;> rw [if_neg hg2]
          unfold M.bind at p2
          rw [this] at p2
          exact p2.elim
      | _ => exact p1.elim
  · refine (en_lc (pos := pos) hc hN (id_any hi) ok hg ht he hv hs).ev Z F μ c σ H Q R ?_
    have e : dLc (M.bind dd seqX) dg dt de (own.map (·.2)) c = dLcA dd dg dt de (own.map (·.2)) c := by
      unfold dLcA dLc M.bind
      cases q : dd c with
      | ok x c1 =>
        cases x with
        | loc n => exact absurd ⟨n, c1, q⟩ hl
        | _ => rfl
      | _ => rfl
    rw [e]
    exact p
theorem sd_setLcA {W' : WX} {i : Nat} {y : Str} {py spos : Pos} {elt tg iter : Expr} {ifs : List Expr} {scope : Scope} {own : List (Str × Nat)} {tl : TE} {vs : List Nat} {g : TG} {tt : TT} {te : TE} {dd : M D} {dg : D → M Unit} {dt : M Bool} {de : M D} (hc : X.calm = true) (hN : X.N.Nodup) (hy : X.N[i]? = some y) (hyl : X.env.scope.names.lookup y = some .local)
    (hsw : swapsWith (.ListComp elt [⟨tg, iter, ifs, 0⟩] scope pos) (some (.Name y py)) spos.line X.env = pure true) (hi : DD X W iter tl dd) (ok : BlkOk X.N X.env.scope scope own)
    (hg : ∀ (s : Shared) (H : Hp) (C : Addr) (cl : List (Str × Addr)) (fp : List Addr), GD (X.blk s H scope (compEnvC scope cl C X.env) fp) tg vs g dg) (ht : ∀ (s : Shared) (H : Hp) (C : Addr) (cl : List (Str × Addr)) (fp : List Addr), TsD (X.blk s H scope (compEnvC scope cl C X.env) fp) W' ifs tt dt)
    (he : ∀ (s : Shared) (H : Hp) (C : Addr) (cl : List (Str × Addr)) (fp : List Addr), DD (X.blk s H scope (compEnvC scope cl C X.env) fp) W' elt te de) (hv : ∀ j ∈ vs, j ∈ own.map (·.2) := by decide) (hs : ∀ x, foldedSetIterable iter X.env x = pure x := by intro _; rfl) :
    SD X W (.Assign [.Name y py] (.ListComp elt [⟨tg, iter, ifs, 0⟩] scope pos) spos) (tAsg (tLc (iAny X.K tl) g tt te (own.map (·.2))) (gName i)) (dSetN i (dLcA dd dg dt de (own.map (·.2)))) :=
  ⟨ps_setLc hc hN hy hyl hsw (pi_any hi.pe) ok (fun s H C cl fp => (hg s H C cl fp).pg) (fun s H C cl fp => (ht s H C cl fp).pt) (fun s H C cl fp => (he s H C cl fp).pe) hs, ev_setN (en_lcA (pos := pos) hc hN hi ok hg ht he hv hs).ev⟩
end
end My

set_option Elab.async false
set_option linter.all false
set_option maxRecDepth 100000
set_option maxHeartbeats 4000000
/-! F12: objects of own classes: made, their fields, their methods. -/
namespace My
open PySem L2
variable [TabEnv]
omit [TabEnv] in
abbrev E00 : XK := fun _ _ _ => False
omit [TabEnv] in
theorem passF {X : Cx} : Passes (L2N.CX X.prog X.w) X E00 := fun _ _ _ _ _ _ _ c => by
  obtain ⟨_, _, _, _, _, _, _, _, _, _, _, _, z⟩ := c
  exact z.elim
/-- a method of a class computes g -/
def Okm (P : Program) (w : World) (K : PySem.W.Frag) (mg : Str → Option Value) (base : Heap) (k : Nat) (C : Addr) (m : Str) (ps : List Str) (g : G) : Prop :=
  ∃ f fd, Meth K C m f ∧ FnOk P w K mg base (L2N.CX P w) k f fd ps (spG K g) ∧ ∀ us : List Value, us.length = ps.length → bindArgs fd ⟨us, []⟩ = pure (ps.zip us)
/-- a class that is made by its name -/
def Okc (P : Program) (w : World) (K : PySem.W.Frag) (mg : Str → Option Value) (base : Heap) (k : Nat) (x : Str) (C : Addr) (ps : List Str) (g : G) : Prop :=
  ∃ f fd, Mk K C f ∧ mg x = some (.ref C) ∧ FnOk P w K mg base (L2N.CX P w) k f fd ps (spG K g) ∧ ∀ us : List Value, us.length = ps.length → bindArgs fd ⟨us, []⟩ = pure (ps.zip us)
omit [TabEnv] in
/-- where a method stands -/
def HasM (K : PySem.W.Frag) (C : Addr) (m qual : Str) (st : Stmt) (ps : List Str) : Prop := ∃ f fd, Fun K m qual st f fd ∧ Meth K C m f ∧ ∀ us : List Value, us.length = ps.length → bindArgs fd ⟨us, []⟩ = pure (ps.zip us)
omit [TabEnv] in
def HasC (K : PySem.W.Frag) (mg : Str → Option Value) (x : Str) (C : Addr) (qual : Str) (st : Stmt) (ps : List Str) : Prop := ∃ f fd, Fun K "__init__" qual st f fd ∧ Mk K C f ∧ mg x = some (.ref C) ∧ ∀ us : List Value, us.length = ps.length → bindArgs fd ⟨us, []⟩ = pure (ps.zip us)
theorem Okm.by {P : Program} {w : World} {K : PySem.W.Frag} {mg : Str → Option Value} {base : Heap} {k : Nat} {C : Addr} {m : Str} {ps : List Str} {g g' : G} (h : Okm P w K mg base k C m ps g) (e : ∀ ds S, g' ds S ≠ .no → g ds S = g' ds S) : Okm P w K mg base k C m ps g' := by
  obtain ⟨f, fd, hm, F, hb⟩ := h
  exact ⟨f, fd, hm, FnOk.by F e, hb⟩
theorem Okc.by {P : Program} {w : World} {K : PySem.W.Frag} {mg : Str → Option Value} {base : Heap} {k : Nat} {x : Str} {C : Addr} {ps : List Str} {g g' : G} (h : Okc P w K mg base k x C ps g) (e : ∀ ds S, g' ds S ≠ .no → g ds S = g' ds S) : Okc P w K mg base k x C ps g' := by
  obtain ⟨f, fd, hm, hg, F, hb⟩ := h
  exact ⟨f, fd, hm, hg, FnOk.by F e, hb⟩
omit [TabEnv] in
/-- what an object of the store has -/
def insD (c : Stt) (C : Addr) : D → Option (List (Str × D))
  | .loc n => match c.S[n]? with
    | some (.ins C' fs) => if C' = C then some fs else none
    | _ => none
  | _ => none
omit [TabEnv] in
def insO (c : Stt) (C : Addr) : O → Option (List (Str × D))
  | .d x => insD c C x
  | _ => none
omit [TabEnv] in
theorem lookup_map {α : Type} {fs : List (Str × α)} : ∀ {gs : List (Str × V)} {m : Str}, gs.map (·.1) = fs.map (·.1) → fs.lookup m = none → gs.lookup m = none := by
  induction fs with
  | nil =>
    intro gs m h _
    cases gs with
    | nil => rfl
    | cons a r => cases h
  | cons f fs ih =>
    intro gs m h e
    cases gs with
    | nil => cases h
    | cons a r =>
      obtain ⟨f1, f2⟩ := f
      obtain ⟨a1, a2⟩ := a
      rw [List.map_cons, List.map_cons] at h
      obtain ⟨h1, h2⟩ := List.cons.inj h
      replace h1 : a1 = f1 := h1
      subst h1
      rw [List.lookup_cons] at e ⊢
      cases q : m == a1 with
      | true => rw [q] at e; cases e
      | false => rw [q] at e; exact ih h2 e
omit [TabEnv] in
theorem lookup_rep {K : PySem.W.Frag} {F : Hp} {μ : List Addr} {m : Str} {x : D} : ∀ {fs : List (Str × D)} {gs : List (Str × V)}, gs.map (·.1) = fs.map (·.1) → Reps K F μ (gs.map (·.2)) (fs.map (·.2)) → fs.lookup m = some x → ∃ v, gs.lookup m = some v ∧ Rep K F μ v x
  | [], _, _, _, e => by cases e
  | (f1, f2) :: fs, [], h, _, _ => by cases h
  | (f1, f2) :: fs, (a1, a2) :: gs, h, r, e => by
    rw [List.map_cons, List.map_cons] at h r
    obtain ⟨h1, h2⟩ := List.cons.inj h
    replace h1 : a1 = f1 := h1
    subst h1
    rw [List.lookup_cons] at e ⊢
    cases r with
    | cons r1 r2 =>
      cases q : m == a1 with
      | true => rw [q] at e; cases e; exact ⟨_, rfl, r1⟩
      | false => rw [q] at e; exact lookup_rep h2 r2 e
omit [TabEnv] in
/-- a field's new value -/
def putFD (f : Str) (x : D) : List (Str × D) → List (Str × D)
  | [] => [(f, x)]
  | (g, y) :: r => if g = f then (g, x) :: r else (g, y) :: putFD f x r
omit [TabEnv] in
theorem putF_rep {K : PySem.W.Frag} {F : Hp} {μ : List Addr} {f : Str} {x : D} {v : V} (rv : Rep K F μ v x) : ∀ {fs : List (Str × D)} {gs : List (Str × V)}, gs.map (·.1) = fs.map (·.1) → Reps K F μ (gs.map (·.2)) (fs.map (·.2)) → (putF f v gs).map (·.1) = (putFD f x fs).map (·.1) ∧ Reps K F μ ((putF f v gs).map (·.2)) ((putFD f x fs).map (·.2))
  | [], [], _, _ => ⟨rfl, .cons rv .nil⟩
  | [], _ :: _, h, _ => by cases h
  | _ :: _, [], h, _ => by cases h
  | (f1, f2) :: fs, (a1, a2) :: gs, h, r => by
    rw [List.map_cons, List.map_cons] at h r
    obtain ⟨h1, h2⟩ := List.cons.inj h
    replace h1 : a1 = f1 := h1
    subst h1
    cases r with
    | cons r1 r2 =>
      unfold putF putFD
      split
      · exact ⟨by rw [List.map_cons, List.map_cons]; exact congrArg _ h2, .cons rv r2⟩
      · obtain ⟨e1, e2⟩ := putF_rep rv h2 r2
        exact ⟨by rw [List.map_cons, List.map_cons]; exact congrArg _ e1, .cons r1 e2⟩
section
variable {K : PySem.W.Frag} {Z F : Hp} {μ : List Addr} {c : Stt} {σ : St} {H : Hp}
theorem ins_at {C : Addr} {v : V} {x : D} {fs : List (Str × D)} (h : Rel K Z F μ c σ H) (r : Rep K F μ v x) (e : insD c C x = some fs) :
    ∃ a dx gs n, x = .loc n ∧ v = .ref a ∧ μ[n]? = some a ∧ c.S[n]? = some (.ins C fs) ∧ H a = some (.ins C dx gs) ∧ gs.map (·.1) = fs.map (·.1) ∧ Reps K F μ (gs.map (·.2)) (fs.map (·.2)) := by
  cases r with
  | loc hn =>
    unfold insD at e
    dsimp only at e
    split at e
    · next C' fs' hs =>
      split at e
      · next hC =>
        cases e
        subst hC
        obtain ⟨_, _, ⟨u, e1, e2⟩, _⟩ := h.sto _ _ _ hn hs
        cases e2 with
        | ins k r => exact ⟨_, _, _, _, rfl, rfl, hn, hs, e1, k, r⟩
      · cases e
    · cases e
  | _ => cases e
theorem ins_atO {C : Addr} {v : V} {x : O} {fs : List (Str × D)} (h : Rel K Z F μ c σ H) (r : RepO K F μ σ v x) (e : insO c C x = some fs) :
    ∃ a dx gs n, x = .d (.loc n) ∧ v = .ref a ∧ μ[n]? = some a ∧ c.S[n]? = some (.ins C fs) ∧ H a = some (.ins C dx gs) ∧ gs.map (·.1) = fs.map (·.1) ∧ Reps K F μ (gs.map (·.2)) (fs.map (·.2)) := by
  cases r with
  | d r =>
    obtain ⟨a, dx, gs, n, rfl, h2⟩ := ins_at h r e
    exact ⟨a, dx, gs, n, rfl, h2⟩
  | sl q => cases e
end
section
variable {X : Cx} {W : WX} {o e : Expr} {t to te : TE} {pos apos : Pos} {dob : M O} {dv : M D} {es : List Expr} {tr : TA} {dr : M (List D)}
omit [TabEnv] in
/-- o.m(..) -/
def dMeth (C : Addr) (m : Str) (g : G) (dob : M O) (dr : M (List D)) : M D := M.bind dob fun x c => match x with
  | .d y => match insD c C y with
    | some fs => if fs.lookup m = none then M.bind dr (fun ds c => match g (y :: ds) c.S with
        | .ok d S => .ok d ⟨c.r, S⟩
        | _ => .no) c else .no
    | none => .no
  | _ => .no
theorem sp_meth {K : PySem.W.Frag} {Z F : Hp} {μ : List Addr} {c : Stt} {σ : St} {H : Hp} {g : G} {ds : List D} {vs : List V} {Q : VK} (RR : Rel K Z F μ c σ H) (rs : Reps K F μ vs ds)
    (p : Post K Z F μ σ W (match g ds c.S with
        | .ok d S => R.ok d ⟨c.r, S⟩
        | _ => .no) (fun x _ F' μ' H' => ∀ v, Rep K F' μ' v x → Q v H')) : spG K g vs H Q E00 := by
  refine ⟨lend Z c σ H, F, μ, c.S, ds, lend_of RR, rs, ?_⟩
  cases e : g ds c.S with
  | ok d S => rw [e] at p; exact fun v F' μ' H' le R' rv => p F' μ' H' le (lend_back RR le R') v rv
  | ex x S => rw [e] at p; exact p.elim
  | no => rw [e] at p; exact p.elim
theorem ev_meth {K : PySem.W.Frag} {C : Addr} {m : Str} {g : G} (ho : EvE K W to dob) (ha : EvA K W tr dr) : EvD K W (tMeth C m (spG K g) [] E00 to tr) (dMeth C m g dob dr) := fun Z F μ c σ H Q R p => ho Z F μ c σ H _ R (p.bind.imp fun x c1 F1 μ1 H1 l1 R1 p1 v r => by
    split at p1
    · next y =>
      split at p1
      · next fs hfs =>
        split at p1
        · next hl =>
          cases r with
          | d r =>
            obtain ⟨a, dx, gs, n, rfl, rfl, hn, hs, hh, k, rs⟩ := ins_at R1 r hfs
            refine ⟨a, dx, gs, rfl, hh, lookup_map k hl, ha Z F1 μ1 c1 σ H1 _ R1 (p1.bind.imp fun ds c2 F2 μ2 H2 l2 R2 p2 vs rs2 => ?_)⟩
            rw [List.append_nil]
            exact sp_meth R2 (.cons (r.mono l2) rs2) p2
        · exact p1.elim
      · exact p1.elim
    · exact p1.elim)
theorem dd_meth {K : PySem.W.Frag} {C : Addr} {m : Str} {k : Nat} {ps : List Str} {g : G} {pl : Sem Bool} (h : Okm X.prog X.w X.K X.mg X.base k C m ps g) (hr : Room k X.A) (cl : Cls X.K C) (ho : ED X W o to dob) (ha : AD X W (e :: es) tr dr)
    (hst : starEach (e :: es) X.env = (false, eval e X.env) :: starEach es X.env := by rfl) (hpl : (backTo pos (starEach es X.env)).any (·.1) = false := by rfl)
    (ht : eval (.Call (.Attribute o m apos) (e :: es) [] pos) X.env = (do
      let ov ← eval o X.env
      standAt apos.atName
      let (f, first) ← holding [ov] (getMethod ov m pl)
      callWith pos f first (backTo pos (starEach (e :: es) X.env)) (backToKw pos (keywordEach [] X.env))) := by rfl) (hK : X.K = K := by rfl) :
    DD X W (.Call (.Attribute o m apos) (e :: es) [] pos) (tMeth C m (spG K g) [] E00 to tr) (dMeth C m g dob dr) := by
  subst hK
  obtain ⟨f, fd, hm, F, hb⟩ := h
  exact ⟨pe_meth (pl := pl) ho.pe cl hm F hr (.all hb) .nil passF ha.pa hst hpl ht, ev_meth ho.ev ha.ev⟩
omit [TabEnv] in
/-- C(..) -/
def dMake (C : Addr) (g : G) (dr : M (List D)) : M D := M.bind dr fun ds c => match g (.loc c.S.length :: ds) (c.S ++ [.ins C []]) with
  | .ok (.v .non) S => .ok (.loc c.S.length) ⟨c.r, S⟩
  | _ => .no
theorem ev_make {K : PySem.W.Frag} {C : Addr} {g : G} (ha : EvA K W tr dr) : EvD K W (tMake C (spG K g) [] E00 tr) (dMake C g dr) := fun Z F μ c σ H Q R p => ha Z F μ c σ H _ R (p.bind.imp fun ds c1 F1 μ1 H1 l1 R1 p1 vs rs x dx hx hdx hne => by
    have hx1 : upd H1 dx (.own x) x = none := by rw [upd_ne (fun e => hne e.symm)]; exact hx
    have R2 := (R1.up (same_new hdx)).up (same_new (o := .ins C dx []) hx1)
    have nb := R1.nob hx
    obtain ⟨R3, l3⟩ := R2.push (m := .ins C []) upd_same nb.f nb.z nb.no nb.nm (.ins rfl .nil)
    have hnl : (μ1 ++ [x])[c1.S.length]? = some x := by
      have : μ1.length = c1.S.length := R1.lm
      rw [← this]
      simp
    rw [List.append_nil]
    refine ⟨lend Z _ σ _, F1, _, c1.S ++ [.ins C []], .loc c1.S.length :: ds, lend_of R3, .cons (.loc hnl) (rs.mono l3), ?_⟩
    cases eg : g (.loc c1.S.length :: ds) (c1.S ++ [.ins C []]) with
    | ok d S =>
      rw [eg] at p1
      cases d with
      | v z =>
        cases z with
        | non =>
          refine fun v F' μ' H' le R' rv => ?_
          cases rv
          have Rb := lend_back R3 le R'
          exact ⟨rfl, p1 F' μ' H' (l3.trans le) Rb _ (.loc (le.mu _ _ hnl))⟩
        | _ => exact p1.elim
      | _ => exact p1.elim
    | ex x S => rw [eg] at p1; exact p1.elim
    | no => rw [eg] at p1; exact p1.elim)
theorem dd_make {K : PySem.W.Frag} {C : Addr} {x : Str} {k : Nat} {ps : List Str} {g : G} {p : Pos} (h : Okc X.prog X.w X.K X.mg X.base k x C ps g) (hr : Room (k + 1) X.A) (hg : Gl X x) (ha : AD X W (e :: es) tr dr)
    (hdb : (x == ("__debug__" : Str)) = false := by decide) (he : starEach (e :: es) X.env = (false, eval e X.env) :: starEach es X.env := by rfl) (hpl : (backTo pos (starEach es X.env)).any (·.1) = false := by rfl) (hK : X.K = K := by rfl) :
    DD X W (.Call (.Name x p) (e :: es) [] pos) (tMake C (spG K g) [] E00 tr) (dMake C g dr) := by
  subst hK
  obtain ⟨f, fd, M, hm, F, hb⟩ := h
  exact ⟨pe_make M F hr hg hm (.all hb) .nil passF ha.pa hdb he hpl, ev_make ha.ev⟩
end
end My

set_option Elab.async false
set_option linter.all false
set_option maxRecDepth 100000
set_option maxHeartbeats 4000000
/-! F13: the order of data; lists by remove, pop; min of tuples. -/
namespace My
open PySem L2
variable [TabEnv]
section
variable {X : Cx} {W : WX} {a b e o : Expr} {t ta tb to te : TE} {pos apos : Pos} {da db dob : M O}
/-! ### < of data of one form -/
omit [TabEnv] in
def someP : PyData → Bool
  | .none => false
  | _ => true
/-! ### o.pop() -/
/-! ### o.remove(e) -/
omit [TabEnv] in
/-- the first place of an equal item -/
def firstEq (q : PyData) : List PyData → Option Nat
  | [] => none
  | p :: ps => if PyData.eqv p q = true then some 0 else (firstEq q ps).map (· + 1)
omit [TabEnv] in
theorem firstEq_at {q : PyData} : ∀ {ps : List PyData} {j : Nat}, firstEq q ps = some j → (∃ p, ps[j]? = some p ∧ PyData.eqv p q = true) ∧ ∀ m, m < j → ∀ p, ps[m]? = some p → PyData.eqv p q = false
  | [], _, e => by cases e
  | p :: ps, j, e => by
    unfold firstEq at e
    split at e
    · next h => cases e; exact ⟨⟨p, rfl, h⟩, fun m hm => absurd hm (Nat.not_lt_zero _)⟩
    · next h =>
      cases h2 : firstEq q ps with
      | none => rw [h2] at e; cases e
      | some i =>
        rw [h2] at e
        cases e
        obtain ⟨h3, h4⟩ := firstEq_at h2
        refine ⟨h3, fun m hm p' hp' => ?_⟩
        cases m with
        | zero => cases hp'; simpa using h
        | succ m => exact h4 m (Nat.lt_of_succ_lt_succ hm) p' hp'
omit [TabEnv] in
def rRemP (K : PySem.W.Frag) : V → List V → Hp → VK → Prop := fun x ys H Q => ∃ l vs y ps q j, x = .ref l ∧ ys = [y] ∧ H l = some (.lst vs) ∧ DpAll K H vs ps ∧ Dp K H y q ∧ PyData.plainAll ps = true ∧ q.plain = true ∧ q.depth ≤ 64 ∧ firstEq q ps = some j ∧ Q .non (upd H l (.lst (vs.eraseIdx j)))
omit [TabEnv] in
theorem plainAll_get : ∀ {ps : List PyData} {i : Nat} {p : PyData}, PyData.plainAll ps = true → ps[i]? = some p → p.plain = true
  | [], _, _, _, e => by simp at e
  | q :: ps, 0, p, h, e => by
    have h' : (q.plain && PyData.plainAll ps) = true := h
    rw [Bool.and_eq_true] at h'
    cases e
    exact h'.1
  | q :: ps, i + 1, p, h, e => by
    have h' : (q.plain && PyData.plainAll ps) = true := h
    rw [Bool.and_eq_true] at h'
    exact plainAll_get h'.2 (by simpa using e)
omit [TabEnv] in
theorem readsAll_get {h : Heap} : ∀ {us : List Value} {ps : List PyData} {as : List Addr} {i : Nat} {u : Value}, ReadsAll h us ps as → us[i]? = some u → ∃ p bs, ps[i]? = some p ∧ Reads h u p bs
  | _, _, _, _, _, .nil, e => by simp at e
  | _, _, _, 0, u, .cons r _, e => by cases e; exact ⟨_, _, rfl, r⟩
  | _, _, _, i + 1, u, .cons _ rs, e => by
    obtain ⟨p, bs, h1, h2⟩ := readsAll_get rs (by simpa using e)
    exact ⟨p, bs, by simpa using h1, h2⟩
omit [TabEnv] in
theorem mt_rem (hu : X.A.units + 66 < cLine) : MtM X "list.remove" (rRemP X.K) := by
  intro pins s σ H x ys v us Q I rx rxs h
  obtain ⟨l, vs, y, ps, q, j, rfl, rfl, hH, hps, hq, pp, pq, hz, hj, k⟩ := h
  cases rx
  obtain ⟨u, rfl, ru⟩ := rxs.one
  obtain ⟨z, its, n, r, hl, e⟩ := I.lstM hH
  obtain ⟨as, ra⟩ := Dp.readsAll I ps vs its hps r
  obtain ⟨bs, rb⟩ := Dp.reads I q y u hq ru
  obtain ⟨⟨p, hp, he⟩, hno⟩ := firstEq_at hj
  have hln : its.length = ps.length := by
    have := PySem.W.readsAll_len (vs := its.toArray) (by simpa using ra)
    simpa using this
  have hjn : j < its.length := by
    rw [hln]
    exact (List.getElem?_eq_some_iff.mp hp).1
  have hjl : j < its.toArray.size := by rw [List.size_toArray]; exact hjn
  classical
  let ee : Value → Bool := fun w => decide (∃ p as, p.plain = true ∧ Reads s.heap w p as ∧ PyData.eqv p q = true)
  have hee : ∀ {i : Nat} {w : Value} {p : PyData}, its[i]? = some w → ps[i]? = some p → ee w = PyData.eqv p q := fun {i w p} h1 h2 => by
    obtain ⟨p', bs', h3, h4⟩ := readsAll_get ra h1
    rw [h2] at h3; cases h3
    have pl := plainAll_get pp h2
    show decide _ = _
    cases hv : PyData.eqv p q with
    | true => exact decide_eq_true ⟨p, bs', pl, h4, hv⟩
    | false =>
      refine decide_eq_false ?_
      rintro ⟨p2, as2, pl2, r2, e2⟩
      have := PySem.SeqAt.plain_unique _ _ _ _ _ pl2 r2 h4
      rw [this, hv] at e2
      cases e2
  refine call_meets PySem.F.slot_list_remove ⟨_, e, rfl⟩ PySem.F.entry_list_remove (PySem.F.args_list_remove_2 _ _)
    (PySem.SeqAt.list_removeAt l its.toArray n none #[] u ee j hjl ?_ ?_ (by rw [List.size_toArray, ← hl]; exact z)) ⟨e, ?_, ?_⟩
  · have : its[j]? = some its.toArray[j] := by simp
    rw [hee this hp]
    exact he
  · intro m hm hmj
    have hm' : m < its.length := by simpa using hm
    have h1 : its[m]? = some its.toArray[m] := by simp [hm']
    obtain ⟨p', bs', h3, h4⟩ := readsAll_get ra h1
    rw [hee h1 h3]
    exact hno m hmj p' h3
  · intro w hw
    obtain ⟨i, hi⟩ : ∃ i, its[i]? = some w := List.getElem?_of_mem (by simpa using hw)
    obtain ⟨p', bs', h3, h4⟩ := readsAll_get ra hi
    rw [hee hi h3]
    refine PySem.SeqAt.eqAt_plain _ _ _ _ _ _ _ _ h4 rb (plainAll_get pp h3) pq ?_
    show X.A.units + 1 + min p'.depth q.depth < cLine
    have : min p'.depth q.depth ≤ q.depth := Nat.min_le_right _ _
    omega
  · have rr := r.eraseIdx j
    refine ⟨.non, _, I.lset (its' := its.eraseIdx j) (t' := s.toks) hH e ?_ rr ?_, rfl, k⟩
    · show its.toArray.eraseIdxIfInBounds j = (its.eraseIdx j).toArray
      rw [List.eraseIdxIfInBounds_toArray]
    · have : (vs.eraseIdx j).length ≤ vs.length := by
        rw [List.length_eraseIdx]
        split <;> omega
      omega
omit [TabEnv] in
/-- o.remove(e) -/
def dRem (dob : M O) (de : M D) : M D := M.bind dob fun o c => match mutD c o with
  | some _ => M.bind de (fun x c => match mutD c o with
      | some ds => match pyDs ds, pyO c (.d x) with
        | some ps, some q => match firstEq q ps with
          | some j => if q.depth ≤ 64 then .ok (.v .non) (putL o (ds.eraseIdx j) c) else .no
          | none => .no
        | _, _ => .no
      | none => .no) c
  | none => .no
omit [TabEnv] in
theorem Reps.eraseIdx {K : PySem.W.Frag} {F : Hp} {μ : List Addr} : ∀ {vs : List V} {ds : List D} (j : Nat), Reps K F μ vs ds → Reps K F μ (vs.eraseIdx j) (ds.eraseIdx j)
  | _, _, _, .nil => by
    rw [List.eraseIdx_nil, List.eraseIdx_nil]
    exact .nil
  | _, _, 0, .cons _ rs => rs
  | _, _, j + 1, .cons r rs => .cons r (Reps.eraseIdx j rs)
theorem dd_rem {K : PySem.W.Frag} {de : M D} (hu : X.A.units + 66 < cLine) (ho : ED X W o to dob) (he : DD X W e te de) (hbase : attributeBase o "remove" X.env (eval o X.env) = eval o X.env := by rfl)
    (hfew : ((backTo pos (starEach [e] X.env)).all (fun x => !x.1) && (backToKw pos (keywordEach [] X.env)).all (fun x => x.1.isSome)
      && decide (([e] : List Expr).length + ([] : List Keyword).length + (if ([] : List Keyword).isEmpty then 0 else 1) < 30)) = true := by rfl)
    (hline : (apos.endLine == pos.line) = true := by rfl) (hs : starEach [e] X.env = (false, eval e X.env) :: starEach [] X.env := by rfl) (hplain : (backTo pos (starEach [] X.env)).any (·.1) = false := by rfl)
    (hs2 : starEach [e] X.env = (false, eval e X.env) :: starEach [] X.env := by rfl) (hK : X.K = K := by rfl) :
    DD X W (.Call (.Attribute o "remove" apos) [e] [] pos) (tBM K "list" (rRemP K) to (tCons te tNil)) (dRem dob de) := by
  subst hK
  exact ⟨pe_bm PySem.F.plainAttrs_list PySem.F.slot_list_remove PySem.F.type_list_remove (mt_rem hu) ho.pe (pa_cons he.pe pa_nil hs2) hbase hfew hline hs hplain, fun Z F μ c σ H Q R p => ho.ev Z F μ c σ H _ R (p.bind.imp fun oo c1 F1 μ1 H1 l1 R1 p1 v1 r1 => by
    split at p1
    · next ds0 hs0 =>
      obtain ⟨a0, vs0, rfl, h0, _, _⟩ := mut_at R1 r1 hs0
      refine ⟨.inl ⟨rfl, _, .of h0⟩, he.ev Z F1 μ1 c1 σ H1 _ R1 (p1.bind.imp fun x c2 F2 μ2 H2 l2 R2 p2 v2 r2 => ?_)⟩
      split at p2
      · next ds hs =>
        split at p2
        · next ps q h1 h2 =>
          split at p2
          · next j hj =>
            split at p2
            · next hz =>
              obtain ⟨a2, vs2, e2, h3, rs, k⟩ := mut_at R2 (r1.mono l2) hs
              cases e2
              exact ⟨_, vs2, v2, ps, q, j, rfl, rfl, h3, dps_of R2.ex rs h1, dpO_of R2 (.d r2) h2, pyDs_plain h1, pyO_plain h2, hz, hj, p2 F2 μ2 _ (Le.refl _ _) (k _ _ (Reps.eraseIdx j rs)) _ (.v _)⟩
            · exact p2.elim
          · exact p2.elim
        · exact p2.elim
      · exact p2.elim
    · exact p1.elim)⟩
end
/-! ### min of tuples of whole numbers -/
section
variable {X : Cx} {W : WX}
end
end My

set_option Elab.async false
set_option linter.all false
set_option maxRecDepth 100000
set_option maxHeartbeats 4000000
/-! F14: what the top has written: classes; the end of a law, whatever the addresses. -/
namespace My
open PySem L2
variable [TabEnv]
/-- the law's promise: a list of at most n whole numbers is handed in, True comes out -/
def spLaw (n : Nat) (K : PySem.W.Frag) : Sp := fun vs H Q _ => ∃ (a : Addr) (ns : List Int), vs = [.ref a] ∧ SqL K H a (ns.map V.int) ∧ ns.length ≤ n ∧ LamX.Tabs TabEnv.T H ∧ ∀ H', Q (.bl true) H'
open Classical in
omit [TabEnv] in
/-- all but the tables -/
noncomputable def noTbl (H : Hp) : Hp := fun b => if ∃ ps, H b = some (.tbl ps) then none else H b
omit [TabEnv] in
theorem noTbl_same (H : Hp) : Same (noTbl H) H := fun b o e => by
  unfold noTbl at e
  split at e
  · cases e
  · exact e
omit [TabEnv] in
theorem noTbl_at {H : Hp} {b : Addr} {o : HO} (h : H b = some o) (n : ∀ ps, o ≠ .tbl ps) : noTbl H b = some o := by
  unfold noTbl
  rw [if_neg, h]
  rintro ⟨ps, e⟩
  rw [h] at e
  exact n ps (Option.some.inj e)
omit [TabEnv] in
theorem noTbl_sq {K : PySem.W.Frag} {H : Hp} {a : Addr} {xs : List V} (h : SqL K H a xs) : SqL K (noTbl H) a xs := by
  rcases h with (h | ⟨o, h⟩) | h
  · exact .inl (.inl (noTbl_at h fun ps z => by cases z))
  · exact .inl (.inr ⟨o, noTbl_at h fun ps z => by cases z⟩)
  · exact .inr h
theorem tabsF_no {T : List (Addr × Str)} {H : Hp} (t : LamX.Tabs T H) : TabsF T (fun _ => none) (noTbl H) H := fun p hp => by
  obtain ⟨ps, h1, h2, h3⟩ := t p hp
  refine ⟨?_, rfl, ps, h1, h2, fun pos cv z => (let ⟨c, q, r⟩ := h3 pos cv z; ⟨c, q, noTbl_at r fun ps z => by unfold LamX.CodeO at z; cases z⟩)⟩
  unfold noTbl
  exact if_pos ⟨ps, h1⟩
theorem law_sp {K : PySem.W.Frag} {n : Nat} {g : G} (ht : ∀ ns : List Int, ns.length ≤ n → ∃ S, g [scr ns] [] = .ok (.v (.bl true)) S) : ∀ vs H Q E, spLaw n K vs H Q E → spG K g vs H Q E := by
  rintro vs H Q E ⟨a, ns, rfl, hS, hl, hT, q⟩
  obtain ⟨S, e⟩ := ht ns hl
  refine ⟨fun _ => none, noTbl H, [], [], [scr ns], ?_, .cons (.scr (noTbl_sq hS) (reps_ints ns)) .nil, ?_⟩
  · exact { ex := noTbl_same H, exz := fun _ _ e => (by cases e), fz := fun _ _ e => (by cases e), len := rfl, slot := fun i x e => (by simp at e), own := fun i x e => (by simp at e), dis := fun i j a m m' e => (by simp at e), lm := rfl, sto := fun n a m e => (by simp at e), dst := fun i n a m e => (by simp at e), ndm := fun n k a e => (by simp at e), tab := tabsF_no hT }
  · rw [e]
    intro v F' μ' H' _ _ r
    cases r
    exact q _
omit [TabEnv] in
theorem u66 {k : Nat} {A : Around} (r : Room k A) : A.units + 66 < cLine := by
  have := r.un
  omega
end My

set_option Elab.async false
set_option linter.all false
set_option maxRecDepth 100000
set_option maxHeartbeats 4000000
/-! F15: two readings of one text; texts; slices of texts and tuples; classes not told ahead. -/
namespace My
open PySem L2
variable [TabEnv]
section
variable {X : Cx} {W : WX} {e a b : Expr} {t t' ta tb : TE} {pos : Pos}
/-! ### a field, whatever the class -/
omit [TabEnv] in
def insA (c : Stt) : O → Option (Addr × List (Str × D))
  | .d (.loc n) => match c.S[n]? with
    | some (.ins C fs) => some (C, fs)
    | _ => none
  | _ => none
omit [TabEnv] in
def dFldA (Cs : List Addr) (f : Str) (dob : M O) : M D := M.bind dob fun x c => match insA c x with
  | some (C, fs) => if C ∈ Cs then match fs.lookup f with
      | some y => .ok y c
      | none => .no
    else .no
  | none => .no
omit [TabEnv] in
theorem insA_O {c : Stt} {x : O} {C : Addr} {fs : List (Str × D)} (h : insA c x = some (C, fs)) : insO c C x = some fs := by
  unfold insA at h
  split at h
  · next n =>
    split at h
    · next C' fs' hs =>
      cases h
      unfold insO insD
      dsimp only
      rw [hs]
      exact if_pos rfl
    · cases h
  · cases h
theorem dd_fldA {K : PySem.W.Frag} {Cs : List Addr} {f : Str} {to : TE} {o : Expr} {dob : M O} (cl : ∀ C ∈ Cs, Cls X.K C ∧ NoAttr X.K C f) (ho : ED X W o to dob) (hb : attributeBase o f X.env (eval o X.env) = eval o X.env := by rfl) (hK : X.K = K := by rfl) : DD X W (.Attribute o f pos) (tFld K to f) (dFldA Cs f dob) := by
  subst hK
  exact ⟨pe_fld ho.pe hb, fun Z F μ c σ H Q R p => ho.ev Z F μ c σ H _ R (p.bind.imp fun x c1 F1 μ1 H1 l1 R1 p1 v r => by
    split at p1
    · next C fs hfs =>
      split at p1
      · next hC =>
        split at p1
        · next y hy =>
          obtain ⟨a, dx, gs, n, rfl, rfl, hn, hs, ha, k, rs⟩ := ins_atO R1 r (insA_O hfs)
          obtain ⟨u, hu, ru⟩ := lookup_rep k rs hy
          exact ⟨a, C, dx, gs, u, rfl, ha, (cl C hC).1, (cl C hC).2, hu, p1 F1 μ1 H1 (Le.refl _ _) R1 _ ru⟩
        · exact p1.elim
      · exact p1.elim
    · exact p1.elim)⟩
/-! ### slices of texts and tuples -/
omit [TabEnv] in
def dSlD (da : M O) (dl du : M (Option Int)) : M D := M.bind da fun o => M.bind dl fun lo => M.bind du fun hi c => match o with
  | .d (.v (.str z)) => if z.length ≤ 1000000 then .ok (.v (.str (cutS z lo hi))) c else .no
  | .d (.tup ds) => .ok (.tup (cutL ds lo hi)) c
  | _ => .no
omit [TabEnv] in
theorem cut_whole {α : Type} (xs : List α) {lo hi : Option Int} (h : HT.sIx xs.length 0 lo = 0 ∧ HT.sIx xs.length xs.length hi = xs.length) : cutL xs lo hi = xs := by
  unfold cutL
  rw [h.1, h.2]
  simp
theorem dd_sl {K : PySem.W.Frag} {lo hi : Option Expr} {tl th : TO} {da : M O} {dl du : M (Option Int)} {p2 : Pos} (h : ED X W a ta da) (hl : OD X W lo tl dl) (hu : OD X W hi th du) (hK : X.K = K := by rfl) : DD X W (.Subscript a (.Slice lo hi none p2) pos) (tSl (fun x lo hi H Q => rSlS x lo hi H Q ∨ rSlA K x lo hi H Q) ta tl th) (dSlD da dl du) := by
  subst hK
  exact ⟨pe_slice (SlR.or sl_str sl_tupA) h.pe hl.po hu.po, fun Z F μ c σ H Q R p => h.ev Z F μ c σ H _ R (p.bind.imp fun o c1 F1 μ1 H1 l1 R1 p1 v1 r1 => hl.ev Z F1 μ1 c1 σ H1 _ R1 (p1.bind.imp fun l c2 F2 μ2 H2 l2 R2 p2 => hu.ev Z F2 μ2 c2 σ H2 _ R2 (p2.bind.imp fun u c3 F3 μ3 H3 l3 R3 p3 => by
    have r3 := (r1.mono l2).mono l3
    split at p3
    · next z =>
      split at p3
      · next hz =>
        cases r3 with
        | d r3 =>
          cases r3
          exact .inl ⟨z, rfl, small6 hz, p3 F3 μ3 H3 (Le.refl _ _) R3 _ (.v _)⟩
      · exact p3.elim
    · next ds =>
      cases r3 with
      | d r3 =>
        cases r3 with
        | tup hs rs =>
          refine .inr ⟨_, _, rfl, Same.seqT R3.ex hs, fun hw => ?_, fun _ q hq => ?_⟩
          · have e : cutL ds l u = ds := cut_whole ds (by rw [← rs.length]; exact hw)
            exact p3 F3 μ3 H3 (Le.refl _ _) R3 _ (by rw [e]; exact .tup hs rs)
          · obtain ⟨R4, l4⟩ := R3.new (o := .tup (cutV _ l u)) hq
            exact p3 _ _ _ l4 R4 _ (.tup (.of upd_same) (reps_cut (rs.mono l4) l u))
    · exact p3.elim)))⟩
/-! ### join -/
omit [TabEnv] in
def strsO (c : Stt) (o : O) : Option (List Str) := (seqD c o).bind strsD
omit [TabEnv] in
def rJoin (K : PySem.W.Frag) : V → List V → Hp → VK → Prop := fun x xs H Q => ∃ a p, ∃ ys : List Str, x = .str a ∧ xs = [.ref p] ∧ (SqL K H p (ys.map V.str) ∨ SqT K H p (ys.map V.str)) ∧ (ys.map (·.length)).sum + ys.length * a.length ≤ 16777216 ∧ Q (.str (Txt.join a ys)) H
omit [TabEnv] in
def dIsStr (o : O) : Bool := match o with
  | .d (.v (.str _)) => true
  | _ => false
omit [TabEnv] in
def dJoinS (da db : M O) : M D := M.bind da fun x c => if dIsStr x = true then M.bind db (fun y c => match x, strsO c y with
  | .d (.v (.str a)), some ys => if (ys.map (·.length)).sum + ys.length * a.length ≤ 1000000 then .ok (.v (.str (Txt.join a ys))) c else .no
  | _, _ => .no) c else .no
theorem dd_join {K : PySem.W.Frag} {da db : M O} {apos : Pos} (ha : ED X W a ta da) (hb : ED X W b tb db) (hs : starEach [b] X.env = [(false, eval b X.env)] := by rfl) (hbase : attributeBase a "join" X.env (eval a X.env) = eval a X.env := by rfl) (hline : (apos.endLine == pos.line) = true := by rfl) (hK : X.K = K := by rfl) :
    DD X W (.Call (.Attribute a "join" apos) [b] [] pos) (tM1 (rJoin K) ta tb) (dJoinS da db) := by
  subst hK
  exact ⟨pe_join ha.pe hb.pe hs hbase hline, fun Z F μ c σ H Q R p => ha.ev Z F μ c σ H _ R (p.bind.imp fun x c1 F1 μ1 H1 l1 R1 p1 v1 r1 => by
    split at p1
    · next hi =>
      have hx : ∃ z, x = .d (.v (.str z)) := by
        unfold dIsStr at hi
        split at hi
        · exact ⟨_, rfl⟩
        · cases hi
      obtain ⟨z, rfl⟩ := hx
      cases r1 with
      | d r1 =>
        cases r1
        refine ⟨⟨z, rfl⟩, hb.ev Z F1 μ1 c1 σ H1 _ R1 (p1.bind.imp fun y c2 F2 μ2 H2 l2 R2 p2 v2 r2 => ?_)⟩
        split at p2
        · next a ys e1 e2 =>
          cases e1
          split at p2
          · next hz =>
            unfold strsO at e2
            cases q : seqD c2 y with
            | none => rw [q] at e2; cases e2
            | some ds =>
              rw [q] at e2
              obtain ⟨l, vs, rfl, h1, rs⟩ := seq_at R2 r2 q
              have := strs_of rs e2
              subst this
              exact ⟨_, l, ys, rfl, rfl, h1, Nat.le_trans hz (by decide), p2 F2 μ2 H2 (Le.refl _ _) R2 _ (.v _)⟩
          · exact p2.elim
        · exact p2.elim
    · exact p1.elim)⟩
/-! ### f() -/
/-! ### isinstance, of an own class -/
omit [TabEnv] in
structure ClsI (K : PySem.W.Frag) (C : Addr) : Prop where
  cl : Cls K C
  ha : PySem.W.findIn K (.ref C) "__class__" = some (some (.builtin "object.__class__"))
  hn : PySem.W.specialIn K (.builtin "object.__class__") "__get__" = some (some (.builtin "getset_descriptor.__get__"))
  htk : PySem.W.takesIn K (.builtin "object.__class__") = some true
  hm : PySem.W.mroIn K C (.type "object") = some true
end
end My

set_option Elab.async false
set_option linter.all false
set_option maxRecDepth 100000
set_option maxHeartbeats 4000000
/-! F16: methods and fields of objects whose class is one of some; a row taken apart. -/
namespace My
open PySem L2
variable [TabEnv]
section
variable {X : Cx} {W : WX} {o e : Expr} {t to te : TE} {pos apos : Pos} {dob : M O} {dv : M D} {es : List Expr} {tr : TA} {dr : M (List D)}
omit [TabEnv] in
theorem pe_some {α : Type} {L : List α} {t : α → TE} (h : ∀ p ∈ L, PE X e (t p)) : PE X e (fun σ H Q => ∃ p, p ∈ L ∧ t p σ H Q) := ⟨fun pins s σ H Q I ⟨p, hp, q⟩ => (h p hp).run pins s σ H Q I q⟩
omit [TabEnv] in
/-- o.m(..), by the class -/
def dMethL (L : List (Addr × G)) (m : Str) (dob : M O) (dr : M (List D)) : M D := fun c => match dob c with
  | .ok x c1 => match insA c1 x with
    | some p => match L.lookup p.1 with
      | some g => dMeth p.1 m g dob dr c
      | none => .no
    | none => .no
  | _ => .no
omit [TabEnv] in
theorem lookup_mem {L : List (Addr × G)} {C : Addr} {g : G} (h : L.lookup C = some g) : (C, g) ∈ L := by
  induction L with
  | nil => cases h
  | cons p L ih =>
    obtain ⟨a, b⟩ := p
    rw [List.lookup_cons] at h
    cases q : C == a with
    | true =>
      rw [q] at h
      cases h
      rw [beq_iff_eq.mp q]
      exact List.mem_cons_self
    | false =>
      rw [q] at h
      exact List.mem_cons_of_mem _ (ih h)
theorem ev_methL {K : PySem.W.Frag} {L : List (Addr × G)} {m : Str} (ho : EvE K W to dob) (ha : EvA K W tr dr) : EvD K W (fun σ H Q => ∃ p : Addr × G, p ∈ L ∧ tMeth p.1 m (spG K p.2) [] E00 to tr σ H Q) (dMethL L m dob dr) := fun Z F μ c σ H Q R p => by
  unfold dMethL at p
  split at p
  · split at p
    · next q hq =>
      split at p
      · next g hg => exact ⟨(q.1, g), lookup_mem hg, ev_meth ho ha Z F μ c σ H Q R p⟩
      · exact p.elim
    · exact p.elim
  · exact p.elim
def OkmL (P : Program) (w : World) (K : PySem.W.Frag) (mg : Str → Option Value) (base : Heap) (k : Nat) (L : List (Addr × G)) (m : Str) (ps : List Str) : Prop := ∀ p ∈ L, Okm P w K mg base k p.1 m ps p.2 ∧ Cls K p.1
theorem dd_methL {K : PySem.W.Frag} {L : List (Addr × G)} {m : Str} {k : Nat} {ps : List Str} {pl : Sem Bool} (h : OkmL X.prog X.w X.K X.mg X.base k L m ps) (hr : Room k X.A) (ho : ED X W o to dob) (ha : AD X W (e :: es) tr dr)
    (hst : starEach (e :: es) X.env = (false, eval e X.env) :: starEach es X.env := by rfl) (hpl : (backTo pos (starEach es X.env)).any (·.1) = false := by rfl)
    (ht : eval (.Call (.Attribute o m apos) (e :: es) [] pos) X.env = (do
      let ov ← eval o X.env
      standAt apos.atName
      let (f, first) ← holding [ov] (getMethod ov m pl)
      callWith pos f first (backTo pos (starEach (e :: es) X.env)) (backToKw pos (keywordEach [] X.env))) := by rfl) (hK : X.K = K := by rfl) :
    DD X W (.Call (.Attribute o m apos) (e :: es) [] pos) (fun σ H Q => ∃ p : Addr × G, p ∈ L ∧ tMeth p.1 m (spG K p.2) [] E00 to tr σ H Q) (dMethL L m dob dr) := by
  subst hK
  exact ⟨pe_some fun p hp => (dd_meth (pl := pl) (h p hp).1 hr (h p hp).2 ho ha hst hpl ht).pe, ev_methL ho.ev ha.ev⟩
omit [TabEnv] in
/-- o.f = e, whatever the class -/
def dSetFA (Cs : List Addr) (f : Str) (dv : M D) (dob : M O) : M Fl := M.bind dv fun y => M.bind dob fun x c => match x with
  | .d (.loc n) => match insA c (.d (.loc n)) with
    | some (C, fs) => if C ∈ Cs ∧ fs.length < 1000 then .ok .nx ⟨c.r, c.S.set n (.ins C (putFD f y fs))⟩ else .no
    | none => .no
  | _ => .no
theorem sd_fldA {K : PySem.W.Frag} {Cs : List Addr} {f : Str} {pos' : Pos} (cl : ∀ C ∈ Cs, Cls X.K C ∧ NoAttr X.K C f) (ho : ED X W o to dob) (hv : DD X W e te dv) (hs : swapsWith e (some (.Attribute o f pos')) pos.line X.env = pure false := by rfl) (hK : X.K = K := by rfl) : SD X W (.Assign [.Attribute o f pos'] e pos) (sFld K to te f) (dSetFA Cs f dv dob) := by
  subst hK
  exact ⟨ps_fld ho.pe hv.pe hs, fun Z F μ c σ H D R p => hv.ev Z F μ c σ H _ R (p.bind.imp fun y c1 F1 μ1 H1 l1 R1 p1 v r => ho.ev Z F1 μ1 c1 σ H1 _ R1 (p1.bind.imp fun x c2 F2 μ2 H2 l2 R2 p2 u ru => by
    split at p2
    · next n =>
      split at p2
      · next C fs hfs =>
        split at p2
        · next hz =>
          obtain ⟨a, dx, gs, n', e1, rfl, hn, hs, ha, k, rs⟩ := ins_atO R2 ru (insA_O hfs)
          cases e1
          obtain ⟨k', rs'⟩ := putF_rep (f := f) (r.mono l2) k rs
          have hl : gs.length < 1000 := by
            have : (gs.map (·.1)).length = (fs.map (·.1)).length := by rw [k]
            rw [List.length_map, List.length_map] at this
            omega
          exact ⟨a, C, dx, gs, rfl, ha, (cl C hz.1).1, (cl C hz.1).2, hl, p2 _ F2 μ2 _ (Le.refl _ _) (R2.put hs trivial hn (.ins k' rs'))⟩
        · exact p2.elim
      · exact p2.elim
    · exact p2.elim))⟩
/-! ### a list taken apart -/
end
end My

set_option Elab.async false
set_option linter.all false
set_option maxRecDepth 100000
set_option maxHeartbeats 4000000
/-! F17: what is never reached; dicts of the store; a base class's function by its class; pop of a place; is True. -/
namespace My
open PySem L2
variable [TabEnv]
section
variable {X : Cx} {W : WX} {e o a b i : Expr} {t to te ti ta tb : TE} {pos apos : Pos} {dob da db : M O} {dv di : M D} {es : List Expr} {tr : TA} {dr : M (List D)}
/-! ### never reached -/
theorem sd_nv {st : Stmt} : SD X W st (fun _ _ _ => False) (M.no) := ⟨⟨fun _ _ _ _ _ _ h => h.elim⟩, fun _ _ _ _ _ _ _ _ p => p.elim⟩
/-! ### dicts of the store -/
omit [TabEnv] in
def dctD (c : Stt) : O → Option (List (Key × D))
  | .d (.loc n) => match c.S[n]? with
    | some (.dct kvs) => some kvs
    | _ => none
  | _ => none
omit [TabEnv] in
def keyD : D → Option Key
  | .v (.int i) => some (.inl i)
  | .v (.str x) => some (.inr x)
  | _ => none
omit [TabEnv] in
def valD (kvs : List (Key × D)) (k : Key) : Option D := (kvs.find? fun kv => decide (kv.1 = k)).map (·.2)
omit [TabEnv] in
def putD (kvs : List (Key × D)) (k : Key) (v : D) : List (Key × D) :=
  if (kvs.any fun kv => decide (kv.1 = k)) = true then kvs.map (fun kv => if kv.1 = k then (kv.1, v) else kv) else kvs ++ [(k, v)]
omit [TabEnv] in
theorem val_rep {K : PySem.W.Frag} {F : Hp} {μ : List Addr} {k : Key} {x : D} : ∀ {ds : List (Key × D)} {kvs : List (Key × V)}, kvs.map (·.1) = ds.map (·.1) → Reps K F μ (kvs.map (·.2)) (ds.map (·.2)) → valD ds k = some x → ∃ v, valV kvs k = some v ∧ Rep K F μ v x
  | [], _, _, _, e => by cases e
  | _ :: _, [], h, _, _ => by cases h
  | (f1, f2) :: ds, (a1, a2) :: kvs, h, r, e => by
    rw [List.map_cons, List.map_cons] at h r
    obtain ⟨h1, h2⟩ := List.cons.inj h
    replace h1 : a1 = f1 := h1
    subst h1
    cases r with
    | cons r1 r2 =>
      unfold valD at e
      unfold valV
      rw [List.find?_cons] at e ⊢
      by_cases q : a1 = k
      · simp only [q, decide_true] at e ⊢
        cases e
        exact ⟨_, rfl, r1⟩
      · simp only [q, decide_false] at e ⊢
        exact val_rep h2 r2 e
omit [TabEnv] in
theorem any_keys {k : Key} : ∀ {ds : List (Key × D)} {kvs : List (Key × V)}, kvs.map (·.1) = ds.map (·.1) → (kvs.any fun kv => decide (kv.1 = k)) = (ds.any fun kv => decide (kv.1 = k))
  | [], [], _ => rfl
  | [], _ :: _, h => by cases h
  | _ :: _, [], h => by cases h
  | (f1, f2) :: ds, (a1, a2) :: kvs, h => by
    rw [List.map_cons, List.map_cons] at h
    obtain ⟨h1, h2⟩ := List.cons.inj h
    replace h1 : a1 = f1 := h1
    subst h1
    rw [List.any_cons, List.any_cons, any_keys h2]
omit [TabEnv] in
theorem put_map {K : PySem.W.Frag} {F : Hp} {μ : List Addr} {k : Key} {v : V} {x : D} (rv : Rep K F μ v x) : ∀ {ds : List (Key × D)} {kvs : List (Key × V)}, kvs.map (·.1) = ds.map (·.1) → Reps K F μ (kvs.map (·.2)) (ds.map (·.2)) →
    (kvs.map (fun kv => if kv.1 = k then (kv.1, v) else kv)).map (·.1) = (ds.map (fun kv => if kv.1 = k then (kv.1, x) else kv)).map (·.1) ∧ Reps K F μ ((kvs.map (fun kv => if kv.1 = k then (kv.1, v) else kv)).map (·.2)) ((ds.map (fun kv => if kv.1 = k then (kv.1, x) else kv)).map (·.2))
  | [], [], _, _ => ⟨rfl, .nil⟩
  | [], _ :: _, h, _ => by cases h
  | _ :: _, [], h, _ => by cases h
  | (f1, f2) :: ds, (a1, a2) :: kvs, h, r => by
    rw [List.map_cons, List.map_cons] at h r
    obtain ⟨h1, h2⟩ := List.cons.inj h
    replace h1 : a1 = f1 := h1
    subst h1
    cases r with
    | cons r1 r2 =>
      obtain ⟨e1, e2⟩ := put_map rv h2 r2
      by_cases q : a1 = k
      · simp only [List.map_cons, q, if_true]
        exact ⟨congrArg _ e1, .cons rv e2⟩
      · simp only [List.map_cons, q, if_false]
        exact ⟨congrArg _ e1, .cons r1 e2⟩
omit [TabEnv] in
theorem put_rep {K : PySem.W.Frag} {F : Hp} {μ : List Addr} {k : Key} {v : V} {x : D} (rv : Rep K F μ v x) {ds : List (Key × D)} {kvs : List (Key × V)} (h : kvs.map (·.1) = ds.map (·.1)) (r : Reps K F μ (kvs.map (·.2)) (ds.map (·.2))) :
    (putK kvs k v).map (·.1) = (putD ds k x).map (·.1) ∧ Reps K F μ ((putK kvs k v).map (·.2)) ((putD ds k x).map (·.2)) := by
  unfold putK putD
  rw [any_keys h]
  split
  · exact put_map rv h r
  · simp only [List.map_append, List.map_cons, List.map_nil]
    exact ⟨by rw [h], r.append (.cons rv .nil)⟩
theorem dct_at {K : PySem.W.Frag} {Z F : Hp} {μ : List Addr} {c : Stt} {σ : St} {H : Hp} {v : V} {x : O} {ds : List (Key × D)} (h : Rel K Z F μ c σ H) (r : RepO K F μ σ v x) (e : dctD c x = some ds) :
    ∃ a kvs n, x = .d (.loc n) ∧ v = .ref a ∧ μ[n]? = some a ∧ c.S[n]? = some (.dct ds) ∧ H a = some (.dK kvs) ∧ kvs.map (·.1) = ds.map (·.1) ∧ Reps K F μ (kvs.map (·.2)) (ds.map (·.2)) := by
  cases r with
  | d r =>
    cases r with
    | loc hn =>
      unfold dctD at e
      dsimp only at e
      split at e
      · next ds' hs =>
        cases e
        obtain ⟨_, _, ⟨u, e1, e2⟩, _⟩ := h.sto _ _ _ hn hs
        cases e2 with
        | dct k r => exact ⟨_, _, _, rfl, rfl, hn, hs, e1, k, r⟩
      · cases e
    | _ => cases e
  | sl q => cases e
omit [TabEnv] in
theorem key_at {K : PySem.W.Frag} {F : Hp} {μ : List Addr} {v : V} {x : D} {k : Key} (r : Rep K F μ v x) (e : keyD x = some k) : v = kV k := by
  cases r with
  | v => cases v <;> cases e <;> rfl
  | _ => cases e
omit [TabEnv] in
/-- {} -/
def dDct : M D := fun c => .ok (.loc c.S.length) ⟨c.r, c.S ++ [.dct []]⟩
theorem dd_dct : DD X W (.Dict [] [] pos) tDNewK dDct := ⟨pe_dnewK, fun Z F μ c σ H Q R p q hq => by
  have nb := R.nob hq
  obtain ⟨R2, l2⟩ := (R.up (same_new (o := .dK []) hq)).push (m := .dct []) upd_same nb.f nb.z nb.no nb.nm (.dct rfl .nil)
  refine p F _ _ l2 R2 _ (.loc ?_)
  have : μ.length = c.S.length := R.lm
  rw [← this]
  simp⟩
omit [TabEnv] in
/-- d[k] = e -/
def dDPut (dv : M D) (dob : M O) (di : M D) : M Fl := M.bind dv fun y => M.bind dob fun x => M.bind di fun k c => match x with
  | .d (.loc n) => match dctD c (.d (.loc n)), keyD k with
    | some kvs, some k => if kvs.length < 1000000 then .ok .nx ⟨c.r, c.S.set n (.dct (putD kvs k y))⟩ else .no
    | _, _ => .no
  | _ => .no
theorem sd_dput {pos' : Pos} (hu : X.A.units + 1 < cLine) (ho : ED X W o to dob) (hi : DD X W i ti di) (hv : DD X W e te dv) (hs : swapsWith e (some (.Subscript o i pos')) pos.line X.env = pure false := by rfl) : SD X W (.Assign [.Subscript o i pos'] e pos) (sDPut to ti te) (dDPut dv dob di) :=
  ⟨ps_dput hu ho.pe hi.pe hv.pe hs, fun Z F μ c σ H D R p => hv.ev Z F μ c σ H _ R (p.bind.imp fun y c1 F1 μ1 H1 l1 R1 p1 v r => ho.ev Z F1 μ1 c1 σ H1 _ R1 (p1.bind.imp fun x c2 F2 μ2 H2 l2 R2 p2 u ru => hi.ev Z F2 μ2 c2 σ H2 _ R2 (p2.bind.imp fun k c3 F3 μ3 H3 l3 R3 p3 w rw' => by
    split at p3
    · next n =>
      split at p3
      · next kvs kk e1 e2 =>
        split at p3
        · next hz =>
          obtain ⟨a, gs, n', e3, rfl, hn, hs, ha, hk, rs⟩ := dct_at R3 (ru.mono l3) e1
          cases e3
          have := key_at rw' e2
          subst this
          obtain ⟨k', rs'⟩ := put_rep (k := kk) ((r.mono l2).mono l3) hk rs
          have hl : gs.length < sizeLine := by
            have h1 : (gs.map (·.1)).length = (kvs.map (·.1)).length := by rw [hk]
            rw [List.length_map, List.length_map] at h1
            rw [h1]
            exact lt6 hz
          exact ⟨a, _, rfl, DPut.k (k := kk) ha hl, p3 _ F3 μ3 _ (Le.refl _ _) (R3.put hs trivial hn (.dct k' rs'))⟩
        · exact p3.elim
      · exact p3.elim
    · exact p3.elim)))⟩
/-! ### C.m(self, ..), C a class told by its name -/
def Okb (P : Program) (w : World) (K : PySem.W.Frag) (mg : Str → Option Value) (base : Heap) (k : Nat) (x m : Str) (ps : List Str) (g : G) : Prop :=
  ∃ C f fd, mg x = some (.ref C) ∧ ClX.CRead K C (.type "type") ∧ PySem.W.findCls K (.ref C) (.type "type") m = some (.val (.ref f)) ∧ PySem.W.keepIn K (.ref f) = true ∧ FnOk P w K mg base (L2N.CX P w) k f fd ps (spG K g) ∧ ∀ us : List Value, us.length = ps.length → bindArgs fd ⟨us, []⟩ = pure (ps.zip us)
omit [TabEnv] in
def dBase (g : G) (dr : M (List D)) : M D := M.bind dr fun ds c => match g ds c.S with
  | .ok d S => .ok d ⟨c.r, S⟩
  | _ => .no
omit [TabEnv] in
theorem getmethcf_ok {pins : List (Addr × Obj)} {σ : St} {H : Hp} {s : Shared} {C f : Addr} {mc : Value} {m : Str} {A : Around} {E : Value → Shared → Prop} {pl : Sem Bool} {Q : Value × List Value → Shared → Prop} (I : Inv X pins σ H s) (r : ClX.CRead X.K C mc) (k : PySem.W.findCls X.K (.ref C) mc m = some (.val (.ref f)))
    (h : ∀ s', Inv X pins σ H s' → Q (.ref f, []) s') : wpAny (model X.prog X.w) A (getMethod (.ref C) m pl) Q E s :=
  PySem.W.method_cls I.kIn r.ga (PySem.W.cls_value I.kIn r.rd k rfl (h _ (I.tok _)))
theorem dd_base {K : PySem.W.Frag} {k : Nat} {ps : List Str} {g : G} {x m : Str} {p : Pos} {pl : Sem Bool} (h : Okb X.prog X.w X.K X.mg X.base k x m ps g) (hr : Room k X.A) (hg : Gl X x) (ha : AD X W (e :: es) tr dr)
    (hdb : (x == ("__debug__" : Str)) = false := by decide) (hst : starEach (e :: es) X.env = (false, eval e X.env) :: starEach es X.env := by rfl) (hpl : (backTo pos (starEach es X.env)).any (·.1) = false := by rfl)
    (ht : eval (.Call (.Attribute (.Name x p) m apos) (e :: es) [] pos) X.env = (do
      let ov ← eval (.Name x p) X.env
      standAt apos.atName
      let (f, first) ← holding [ov] (getMethod ov m pl)
      callWith pos f first (backTo pos (starEach (e :: es) X.env)) (backToKw pos (keywordEach [] X.env))) := by rfl) (hK : X.K = K := by rfl) :
    DD X W (.Call (.Attribute (.Name x p) m apos) (e :: es) [] pos) (tCall (spG K g) [] E00 tr) (dBase g dr) := by
  subst hK
  obtain ⟨C, f, fd, hm, r, k1, kp, F, hb⟩ := h
  refine ⟨⟨fun pins s σ H Q I h => ?_⟩, fun Z F μ c σ H Q R p => ha.ev Z F μ c σ H _ R (p.bind.imp fun ds c1 F1 μ1 H1 l1 R1 p1 vs rs => by
    rw [List.append_nil]
    exact sp_meth R1 rs p1)⟩
  refine PySem.W.methodCall_KW (pl := pl) (thn ((pe_glob (X := X) (pos := p) (v := .ref C) hg hm rfl hdb).run pins s σ H (fun x H1 => x = .ref C ∧ tr σ H1 fun vs H2 => spG X.K g (vs ++ []) H2 Q E00) I ⟨rfl, h⟩) fun u s1 ⟨x, H1, I1, rx, ex, q⟩ => ?_) ht
  subst ex
  · obtain rfl : u = Value.ref C := rx
    refine getmethcf_ok I1 r k1 fun s2 I2 => ?_
    refine PySem.W.callWith_K (first := []) (h₀ := X.base) I.ok.mod.kin kp (thn (ha.pa.run pos pins s2 σ H1 _ I2 q) fun us s3 ⟨vs, H2, I3, r3, q2⟩ => ⟨I3.kIn, ?_⟩) hst hpl
    exact run_fn (us := us) F hr (.all hb) .nil passF I3 r3 q2
end
end My

set_option Elab.async false
set_option linter.all false
set_option maxRecDepth 100000
set_option maxHeartbeats 4000000
/-! F18: the tables of classes. -/
namespace My
open PySem L2
variable [TabEnv]
omit [TabEnv] in
theorem u1 {k : Nat} {A : Around} (r : Room k A) : A.units + 1 < cLine := by
  have := r.un
  omega
section
variable {P : Program} {w : World} {K : PySem.W.Frag} {mg : Str → Option Value} {base : Heap} {j k : Nat} {C : Addr} {x m qual : Str} {st : Stmt} {ps : List Str} {g : G}
theorem okm_of (h : HasM K C m qual st ps) (hjk : j ≤ k) (F : ∀ {f : Addr} {fd : FuncData}, Fun K m qual st f fd → FnOk P w K mg base (L2N.CX P w) j f fd ps (spG K g)) : Okm P w K mg base k C m ps g := by
  obtain ⟨f, fd, Fn, hm, hb⟩ := h
  exact ⟨f, fd, hm, (F Fn).mono hjk, hb⟩
theorem okc_of (h : HasC K mg x C qual st ps) (hjk : j ≤ k) (F : ∀ {f : Addr} {fd : FuncData}, Fun K "__init__" qual st f fd → FnOk P w K mg base (L2N.CX P w) j f fd ps (spG K g)) : Okc P w K mg base k x C ps g := by
  obtain ⟨f, fd, Fn, hm, hg, hb⟩ := h
  exact ⟨f, fd, hm, hg, (F Fn).mono hjk, hb⟩
omit [TabEnv] in
/-- where a class's function stands -/
def HasB (K : PySem.W.Frag) (mg : Str → Option Value) (x m qual : Str) (st : Stmt) (ps : List Str) : Prop := ∃ C f fd, Fun K m qual st f fd ∧ mg x = some (.ref C) ∧ ClX.CRead K C (.type "type") ∧ PySem.W.findCls K (.ref C) (.type "type") m = some (.val (.ref f)) ∧ ∀ us : List Value, us.length = ps.length → bindArgs fd ⟨us, []⟩ = pure (ps.zip us)
theorem okb_of (h : HasB K mg x m qual st ps) (hjk : j ≤ k) (F : ∀ {f : Addr} {fd : FuncData}, Fun K m qual st f fd → FnOk P w K mg base (L2N.CX P w) j f fd ps (spG K g)) : Okb P w K mg base k x m ps g := by
  obtain ⟨C, f, fd, Fn, hm, r, k1, hb⟩ := h
  exact ⟨C, f, fd, hm, r, k1, Fn.kp, (F Fn).mono hjk, hb⟩
end
/-! ### is True, is False -/
section
variable {X : Cx} {W : WX}
omit [TabEnv] in
def gNotB : O → O → M D := fun a b c => match a, b with
  | .d (.v (.bl x)), .d (.v (.bl y)) => .ok (.v (.bl (!decide (x = y)))) c
  | _, _ => .no
theorem cNotB : CmpR X W .IsNot rNotB gNotB := ⟨op_notBl, fun Z F μ c σ H Q x y a b R rx ry p => by
  unfold gNotB at p
  split at p
  · cases rx with
    | d rx =>
      cases ry with
      | d ry =>
        cases rx
        cases ry
        exact ⟨_, _, rfl, rfl, p F μ H (Le.refl _ _) R _ (.v _)⟩
  · exact p.elim⟩
end
/-! ### isinstance, lists and dicts of the store too -/
omit [TabEnv] in
def tagS (c : Stt) : D → Option String
  | .loc n => match c.S[n]? with
    | some (.lst _) => some "list"
    | some (.dct _) => some "dict"
    | _ => none
  | x => tagD x
theorem ty_ofS {K : PySem.W.Frag} {Z F : Hp} {μ : List Addr} {c : Stt} {σ : St} {H : Hp} {v : V} {d : D} {t : String} (R : Rel K Z F μ c σ H) (r : Rep K F μ v d) (e : tagS c d = some t) : TyX K H v (.type t) := by
  cases r with
  | loc hn =>
    unfold tagS at e
    dsimp only at e
    split at e
    · next ds hs =>
      cases e
      obtain ⟨_, _, ⟨u, e1, e2⟩, _⟩ := R.sto _ _ _ hn hs
      cases e2
      exact .base (.lst e1)
    · next ds hs =>
      cases e
      obtain ⟨_, _, ⟨u, e1, e2⟩, _⟩ := R.sto _ _ _ hn hs
      cases e2
      exact .base (.dK e1)
    · cases e
  | v => exact ty_of (μ := μ) R.ex (.v _) e
  | tup a b => exact ty_of R.ex (.tup a b) e
  | lst a b => exact ty_of R.ex (.lst a b) e
  | scr a b => exact ty_of R.ex (.scr a b) e
  | dct a b d => exact ty_of R.ex (.dct a b d) e
  | exn0 => cases e
  | exn1 _ _ => cases e
  | exm _ _ _ => cases e
  | tset _ => cases e
  | fn _ _ _ => cases e
  | ins a b d => exact ty_of R.ex (.ins a b d) e
omit [TabEnv] in
def gIsiS (cl : String) : D → M D := fun x c => match (tagS c x).bind fun t => isiT t cl with
  | some b => .ok (.v (.bl b)) c
  | none => .no
theorem dd_isiS {X : Cx} {W : WX} {a : Expr} {ta : TE} {pos : Pos} {K : PySem.W.Frag} {x : Str} {cl : String} {p q : Pos} {dx : M D} (hg : Gl X "isinstance") (hm : X.mg "isinstance" = none) (hv : bootBuiltins "isinstance" = some (.builtin "isinstance")) (ha : DD X W a ta dx) (hg2 : Gl X x) (hm2 : X.mg x = none) (hv2 : bootBuiltins x = some (.type cl))
    (hs : starEach [a, .Name x q] X.env = (false, eval a X.env) :: starEach [.Name x q] X.env := by rfl) (hs2 : starEach [.Name x q] X.env = (false, eval (.Name x q) X.env) :: starEach [] X.env := by rfl) (hn : x ≠ "__name__" := by decide) (hdb : (x == ("__debug__" : Str)) = false := by decide)
    (he : starEach [a, .Name x q] X.env = (false, eval a X.env) :: starEach [.Name x q] X.env := by rfl) (hpl : (backTo pos (starEach [.Name x q] X.env)).any (·.1) = false := by rfl) (hK : X.K = K := by rfl) :
    DD X W (.Call (.Name "isinstance" p) [a, .Name x q] [] pos) (tCB (rIsi K) (tCons ta (tCons (tC (.ty cl)) tNil))) (M.bind dx (gIsiS cl)) := by
  subst hK
  exact ⟨(dd_isi hg hm hv ha hg2 hm2 hv2 hs hs2 hn hdb he hpl).pe, fun Z F μ c σ H Q R p => ha.ev Z F μ c σ H _ R (p.bind.imp fun x c1 F1 μ1 H1 l1 R1 p1 v1 r1 => by
    unfold gIsiS at p1
    split at p1
    · next b hb =>
      cases ht : tagS c1 x with
      | none => rw [ht] at hb; cases hb
      | some t =>
        rw [ht] at hb
        exact ⟨v1, .ty cl, .type t, .type cl, b, rfl, .ty cl, ty_ofS R1 r1 ht, isi_kit hb, p1 F1 μ1 H1 (Le.refl _ _) R1 _ (.v _)⟩
    · exact p1.elim)⟩
/-! ### o.pop(i) -/
section
variable {X : Cx} {W : WX} {e o : Expr} {te to : TE} {pos apos : Pos} {dob : M O} {de : M D}
end
end My

set_option Elab.async false
set_option linter.all false
set_option maxRecDepth 100000
set_option maxHeartbeats 4000000
/-! F19: reckoning: guarded walks, rows of numbers in the store. -/
namespace My
open PySem L2
variable [TabEnv]
omit [TabEnv] in
theorem firstEq_int {k : Int} : ∀ {ms : List Int}, k ∈ ms → ∃ j, firstEq (.int k) (ms.map PyData.int) = some j ∧ ms.eraseIdx j = ms.erase k
  | [], h => by simp at h
  | m :: ms, h => by
    have ev : PyData.eqv (.int m) (.int k) = decide (m = k) := PySem.W.Datum.eqv m k
    rw [List.map_cons]
    unfold firstEq
    rw [ev]
    by_cases e : m = k
    · subst e
      refine ⟨0, by rw [if_pos (by simp)], ?_⟩
      rw [List.erase_cons_head]
      rfl
    · have ht : k ∈ ms := by
        rcases List.mem_cons.mp h with q | q
        · exact absurd q.symm e
        · exact q
      obtain ⟨j, h1, h2⟩ := firstEq_int ht
      refine ⟨j + 1, ?_, ?_⟩
      · rw [if_neg (by simpa using e), h1]
        rfl
      · rw [List.erase_cons_tail (by simpa using e), ← h2]
        rfl
omit [TabEnv] in
theorem eraseIdx_mapI {α β : Type} (f : α → β) : ∀ (l : List α) (j : Nat), (l.map f).eraseIdx j = (l.eraseIdx j).map f
  | [], j => by rw [List.map_nil, List.eraseIdx_nil, List.eraseIdx_nil, List.map_nil]
  | a :: l, 0 => rfl
  | a :: l, j + 1 => congrArg (f a :: ·) (eraseIdx_mapI f l j)
omit [TabEnv] in
theorem rem_int {k : Int} {ms : List Int} (h : k ∈ ms) : ∃ j, firstEq (.int k) (ms.map PyData.int) = some j ∧ (ms.map I).eraseIdx j = (ms.erase k).map I := by
  obtain ⟨j, h1, h2⟩ := firstEq_int h
  exact ⟨j, h1, by rw [eraseIdx_mapI, h2]⟩
omit [TabEnv] in
theorem pyO_int {c : Stt} {k : Int} : pyO c (.d (.v (.int k))) = some (.int k) := rfl
omit [TabEnv] in
theorem app_int (ms : List Int) (k : Int) : ms.map I ++ [D.v (V.int k)] = (ms ++ [k]).map I := by
  rw [List.map_append]
  rfl
omit [TabEnv] in
theorem tl_get (T : List Cell) (x : Cell) : (T ++ [x])[T.length]? = some x := by simp
omit [TabEnv] in
theorem tl_set (T : List Cell) (x y : Cell) : (T ++ [x]).set T.length y = T ++ [y] := by
  rw [List.set_append_right _ _ (Nat.le_refl _), Nat.sub_self]
  rfl
omit [TabEnv] in
theorem tl_get2 (T : List Cell) (x y : Cell) : (T ++ [x, y])[T.length]? = some x := by simp
omit [TabEnv] in
theorem tl_set2 (T : List Cell) (x y z : Cell) : (T ++ [x, y]).set T.length z = T ++ [z, y] := by
  rw [List.set_append_right _ _ (Nat.le_refl _), Nat.sub_self]
  rfl
omit [TabEnv] in
theorem st_get {T : List Cell} {q : Nat} {y : Cell} (h : T[q]? = some y) (x : Cell) : (T.set q x)[q]? = some x := by
  rw [List.getElem?_set, if_pos rfl, if_pos (List.getElem?_eq_some_iff.mp h).1]
omit [TabEnv] in
theorem gEq_locl {neg : Bool} {m : Nat} {b : O} {c : Stt} {ds : List D} (h : c.S[m]? = some (.lst ds)) : gEq neg (.d (.loc m)) b c = gEq neg (.d (.lst ds)) b c := by
  have e : pyO c (.d (.loc m)) = pyO c (.d (.lst ds)) := by
    show (match c.S[m]? with | some (.lst ds) => (pyDs ds).map PyData.list | _ => none) = pyD (.lst ds)
    rw [h]
    unfold pyD
    rfl
  unfold gEq
  rw [e]
omit [TabEnv] in
theorem gEq_locr {neg : Bool} {m : Nat} {a : O} {c : Stt} {ds : List D} (h : c.S[m]? = some (.lst ds)) : gEq neg a (.d (.loc m)) c = gEq neg a (.d (.lst ds)) c := by
  have e : pyO c (.d (.loc m)) = pyO c (.d (.lst ds)) := by
    show (match c.S[m]? with | some (.lst ds) => (pyDs ds).map PyData.list | _ => none) = pyD (.lst ds)
    rw [h]
    unfold pyD
    rfl
  unfold gEq
  rw [e]
omit [TabEnv] in
theorem gEq_selfD {neg : Bool} {x : D} {p : PyData} {c : Stt} (h : pyO c (.d x) = some p) (hz : p.depth ≤ 64) : gEq neg (.d x) (.d x) c = .ok (.v (.bl (!neg))) c := by
  rw [gEq_of h h hz (PySem.SeqAt.eqv_refl_plain p (pyO_plain h))]
  cases neg <;> rfl
end My
namespace My
open PySem L2
variable [TabEnv]
/-! ### texts of single signs -/
omit [TabEnv] in
def ch (k : Nat) : Str := ⟨#[k]⟩
omit [TabEnv] in
theorem strsD_map : ∀ ys : List Str, strsD (ys.map fun y => D.v (V.str y)) = some ys
  | [] => rfl
  | y :: ys => by
    show (strsD (ys.map fun y => D.v (V.str y))).map (y :: ·) = _
    rw [strsD_map ys]
    rfl
omit [TabEnv] in
theorem join_ch (l : List Nat) : (Txt.join ("" : Str) (l.map ch)).cps.toList = l := by
  have h0 : (("" : Str)).cps.toList = [] := rfl
  have key : ∀ l : List Nat, (Str.join ("" : Str) (l.map ch)).cps.toList = l := fun l => by
    induction l with
    | nil => rfl
    | cons a r ih =>
      cases r with
      | nil => rfl
      | cons b r =>
        have e : Str.join ("" : Str) ((a :: b :: r).map ch) = ch a ++ ("" : Str) ++ Str.join ("" : Str) ((b :: r).map ch) := rfl
        rw [e]
        show (((ch a).cps ++ (("" : Str)).cps) ++ (Str.join ("" : Str) ((b :: r).map ch)).cps).toList = _
        rw [Array.toList_append, Array.toList_append, ih, h0]
        rfl
  have e : Txt.join ("" : Str) (l.map ch) = Str.join ("" : Str) (l.map ch) := TL.join_eq _ _
  rw [e]
  exact key l
omit [TabEnv] in
theorem ch_len (l : List Nat) : ((l.map ch).map (·.length)).sum = l.length := by
  induction l with
  | nil => rfl
  | cons a r ih =>
    rw [List.map_cons, List.map_cons, List.sum_cons, ih, List.length_cons]
    show 1 + r.length = _
    omega
omit [TabEnv] in
theorem qzjv : (("qzjv" : Str)).cps.toList = [113, 122, 106, 118] := rfl
omit [TabEnv] in
theorem abc26 : (("abcdefghijklmnopqrstuvwxyz" : Str)).cps.toList = (List.range 26).map (fun k => 97 + k) := rfl
end My

set_option Elab.async false
set_option linter.all false
set_option maxRecDepth 100000
set_option maxHeartbeats 4000000
/-! F20: dicts that are walked; dict(pairs); d[k] op= e, xs[i] op= e. -/
namespace My
open PySem L2
variable [TabEnv]
/-! ### a dict while a loop walks it -/
omit [TabEnv] in
def dropF (F : Hp) (a : Addr) : Hp := fun b => if b = a then none else F b
omit [TabEnv] in
theorem dropF_ne {F : Hp} {a b : Addr} (h : b ≠ a) : dropF F a b = F b := if_neg h
section
variable {K : PySem.W.Frag} {Z F F' : Hp} {μ μ' : List Addr} {a : Addr} {ob : Obj} {kvs : List (Key × V)}
omit [TabEnv] in
theorem seqT_drop {b : Addr} {vs : List V} (hF : F a = some (.frz ob (.dK kvs))) (h : SqT K F b vs) : SqT K (dropF F a) b vs := by
  rcases h with (h | ⟨o, h⟩) | h
  · exact .inl (.inl (by rw [dropF_ne (fun e => by rw [e, hF] at h; cases h)]; exact h))
  · exact .inl (.inr ⟨o, by rw [dropF_ne (fun e => by rw [e, hF] at h; cases h)]; exact h⟩)
  · exact .inr h
omit [TabEnv] in
theorem seqL_drop {b : Addr} {vs : List V} (hF : F a = some (.frz ob (.dK kvs))) (h : SqL K F b vs) : SqL K (dropF F a) b vs := by
  rcases h with (h | ⟨o, h⟩) | h
  · exact .inl (.inl (by rw [dropF_ne (fun e => by rw [e, hF] at h; cases h)]; exact h))
  · exact .inl (.inr ⟨o, by rw [dropF_ne (fun e => by rw [e, hF] at h; cases h)]; exact h⟩)
  · exact .inr h
omit [TabEnv] in
theorem ext_drop {b : Addr} {φ : Heap → Prop} (hF : F a = some (.frz ob (.dK kvs))) (h : F b = some (.ext φ)) : dropF F a b = some (.ext φ) := by
  rw [dropF_ne (fun e => by rw [e, hF] at h; cases h)]
  exact h
omit [TabEnv] in
theorem CellsF.drop {cl : List (Str × Addr)} {fr : List Str} {xs : List V} (hF : F a = some (.frz ob (.dK kvs))) (h : CellsF F cl fr xs) : CellsF (dropF F a) cl fr xs :=
  ⟨h.len, fun y c z => (let ⟨v, q⟩ := h.all y c z; ⟨v, ext_drop hF q⟩), h.inj, fun i y z => (let ⟨c, q, r⟩ := h.has i y z; ⟨c, q, fun v w => ext_drop hF (r v w)⟩)⟩
omit [TabEnv] in
mutual
theorem Rep.drop (hF : F a = some (.frz ob (.dK kvs))) : ∀ {v : V} {d : D}, Rep K F μ v d → Rep K (dropF F a) μ v d
  | _, _, .v x => .v x
  | _, _, .tup h r => .tup (seqT_drop hF h) (Reps.dropA hF r)
  | _, _, .lst h r => .lst (by rw [dropF_ne (fun e => by rw [e, hF] at h; cases h)]; exact h) (Reps.dropA hF r)
  | _, _, .scr h r => .scr (seqL_drop hF h) (Reps.dropA hF r)
  | _, _, .dct h k r => .dct (by rw [dropF_ne (fun e => by rw [e, hF] at h; cases h)]; exact h) k (Reps.dropA hF r)
  | _, _, .ins h k r => .ins (by rw [dropF_ne (fun e => by rw [e, hF] at h; cases h)]; exact h) k (Reps.dropA hF r)
  | _, _, .loc h => .loc h
  | _, _, .exn0 => .exn0
  | _, _, .exn1 h r => .exn1 (by rw [dropF_ne (fun e => by rw [e, hF] at h; cases h)]; exact h) (Rep.drop hF r)
  | _, _, .exm h g r => .exm (by rw [dropF_ne (fun e => by rw [e, hF] at h; exact exo_frz (Option.some.inj h).symm)]; exact h) (by rw [dropF_ne (fun e => by rw [e, hF] at g; exact exdFrz (Option.some.inj g).symm)]; exact g) (Rep.drop hF r)
  | _, _, .tset h => .tset (by rw [dropF_ne (fun e => by rw [e, hF] at h; exact setFrz (Option.some.inj h).symm)]; exact h)
  | _, _, .fn h g r => .fn (ext_drop hF h) (ext_drop hF g) (r.drop hF)
theorem Reps.dropA (hF : F a = some (.frz ob (.dK kvs))) : ∀ {vs : List V} {ds : List D}, Reps K F μ vs ds → Reps K (dropF F a) μ vs ds
  | _, _, .nil => .nil
  | _, _, .cons h r => .cons (Rep.drop hF h) (Reps.dropA hF r)
end
omit [TabEnv] in
theorem CellO.drop (hF : F a = some (.frz ob (.dK kvs))) {p : Addr} {o : HO} {m : Cell} (h : CellO K F μ p o m) : CellO K (dropF F a) μ p o m := by
  cases h with
  | lst r => exact .lst (r.dropA hF)
  | dct k r => exact .dct k (r.dropA hF)
  | ins k r => exact .ins k (r.dropA hF)
  | lck k r => exact .lck k (r.dropA hF)
  | nd k r => exact .nd k fun x hx => (let ⟨c, h1, h2⟩ := r x hx; ⟨c, seqT_drop hF h1, seqT_drop hF h2⟩)
  | hid n => exact .hid n
  | gone => exact .gone
end
section
variable {X : Cx} {W : WX} {e o a b i : Expr} {t to te ti ta tb : TE} {pos apos : Pos} {dob da db : M O} {dd dv di : M D}
/-! ### a dict that is read: locked or not -/
omit [TabEnv] in
def rdcD (c : Stt) : O → Option (List (Key × D))
  | .d (.loc n) => match c.S[n]? with
    | some (.dct kvs) => some kvs
    | some (.lck kvs) => some kvs
    | _ => none
  | _ => none
theorem rdc_at {K : PySem.W.Frag} {Z F : Hp} {μ : List Addr} {c : Stt} {σ : St} {H : Hp} {v : V} {x : O} {ds : List (Key × D)} (h : Rel K Z F μ c σ H) (r : RepO K F μ σ v x) (e : rdcD c x = some ds) :
    ∃ a kvs, v = .ref a ∧ Rd H a (.dK kvs) ∧ kvs.map (·.1) = ds.map (·.1) ∧ Reps K F μ (kvs.map (·.2)) (ds.map (·.2)) := by
  cases r with
  | d r =>
    cases r with
    | loc hn =>
      unfold rdcD at e
      dsimp only at e
      split at e
      · next ds' hs =>
        cases e
        obtain ⟨_, _, ⟨u, e1, e2⟩, _⟩ := h.sto _ _ _ hn hs
        cases e2 with
        | dct k r => exact ⟨_, _, rfl, .inl e1, k, r⟩
      · next ds' hs =>
        cases e
        obtain ⟨_, _, ⟨u, e1, e2⟩, _⟩ := h.sto _ _ _ hn hs
        cases e2 with
        | lck k r => exact ⟨_, _, rfl, .inr ⟨_, e1⟩, k, r⟩
      · cases e
    | _ => cases e
  | sl q => cases e
omit [TabEnv] in
/-- d[k] -/
def dRGet (dob : M O) (di : M D) : M D := M.bind dob fun x => M.bind di fun k c => match rdcD c x, keyD k with
  | some kvs, some k => match valD kvs k with
    | some y => .ok y c
    | none => .no
  | _, _ => .no
theorem dd_rget (hu : X.A.units + 1 < cLine) (ho : ED X W o to dob) (hi : DD X W i ti di) (hs : NoSl i := by intro _ _; rfl) : DD X W (.Subscript o i pos) (tDGet to ti) (dRGet dob di) :=
  ⟨pe_dget hu ho.pe hi.pe hs, fun Z F μ c σ H Q R p => ho.ev Z F μ c σ H _ R (p.bind.imp fun x c1 F1 μ1 H1 l1 R1 p1 v r => hi.ev Z F1 μ1 c1 σ H1 _ R1 (p1.bind.imp fun k c2 F2 μ2 H2 l2 R2 p2 u ru => by
    split at p2
    · next kvs kk e1 e2 =>
      split at p2
      · next y hy =>
        obtain ⟨a, gs, rfl, ha, hk, rs⟩ := rdc_at R2 (r.mono l2) e1
        obtain ⟨w, hw, rw'⟩ := val_rep hk rs hy
        have := key_at ru e2
        subst this
        have g : DGet H2 a (kV kk) (valV gs kk) := .inl ⟨gs, kk, ha, rfl, rfl⟩
        rw [hw] at g
        exact ⟨a, w, rfl, g, p2 F2 μ2 H2 (Le.refl _ _) R2 _ rw'⟩
      · exact p2.elim
    · exact p2.elim))⟩
omit [TabEnv] in
/-- d[k] += j -/
def dDAug (f : Int → Int → Int) (dob : M O) (di dv : M D) : M Fl := M.bind dob fun x => M.bind di fun k c => match rdcD c x, keyD k with
  | some kvs, some kk => match valD kvs kk with
    | some (.v (.int i)) => M.bind dv (fun y c => match y, x with
      | .v (.int j), .d (.loc n) => match dctD c (.d (.loc n)) with
        | some kvs => if kvs.length < 1000000 then .ok .nx ⟨c.r, c.S.set n (.dct (putD kvs kk (.v (.int (f i j)))))⟩ else .no
        | none => .no
      | _, _ => .no) c
    | _ => .no
  | _, _ => .no
omit [TabEnv] in
def rdI (f : Int → Int → Int) : V → V → Hp → VK → Prop := fun x y H Q => ∃ i j, x = .int i ∧ y = .int j ∧ Q (.int (f i j)) H
theorem sd_daug {op : Operator} {f : Int → Int → Int} {tpos : Pos} (hop : InOp X op (rdI f)) (hu : X.A.units + 1 < cLine) (ho : ED X W o to dob) (hi : DD X W i ti di) (hv : DD X W e te dv)
    (ha : ∀ ov iv new, augStore i ov iv new = (do holding [new, ov, iv] (setItem ov iv new); release [new, ov, iv] []; pure .next) := by intros; rfl) : SD X W (.AugAssign (.Subscript o i tpos) op e pos) (sDAug to ti te (rdI f)) (dDAug f dob di dv) :=
  ⟨ps_daug hu ho.pe hi.pe hv.pe hop ha, fun Z F μ c σ H D R p => ho.ev Z F μ c σ H _ R (p.bind.imp fun x c1 F1 μ1 H1 l1 R1 p1 v r => hi.ev Z F1 μ1 c1 σ H1 _ R1 (p1.bind.imp fun k c2 F2 μ2 H2 l2 R2 p2 u ru => by
    split at p2
    · next kvs kk e1 e2 =>
      split at p2
      · next z hz =>
        obtain ⟨a, gs, rfl, hd, hk, rs⟩ := rdc_at R2 (r.mono l2) e1
        obtain ⟨w, hw, rw'⟩ := val_rep hk rs hz
        cases rw'
        have ek := key_at ru e2
        subst ek
        have g : DGet H2 a (kV kk) (valV gs kk) := .inl ⟨gs, kk, hd, rfl, rfl⟩
        rw [hw] at g
        refine ⟨a, _, rfl, g, hv.ev Z F2 μ2 c2 σ H2 _ R2 (p2.bind.imp fun y c3 F3 μ3 H3 l3 R3 p3 w2 r2 => ?_)⟩
        split at p3
        · next j n =>
          cases r2
          refine ⟨z, j, rfl, rfl, ?_⟩
          split at p3
          · next kv2 e3 =>
            split at p3
            · next hz2 =>
              obtain ⟨a', gs2, n', e4, e5, hn, hs, ha', hk2, rs2⟩ := dct_at R3 ((r.mono l2).mono l3) e3
              cases e4
              cases e5
              obtain ⟨k', rs'⟩ := put_rep (k := kk) (.v (.int (f z j))) hk2 rs2
              have hl : gs2.length < sizeLine := by
                have h1 : (gs2.map (·.1)).length = (kv2.map (·.1)).length := by rw [hk2]
                rw [List.length_map, List.length_map] at h1
                rw [h1]
                exact lt6 hz2
              exact ⟨_, DPut.k (k := kk) ha' hl, p3 _ F3 μ3 _ (Le.refl _ _) (R3.put hs trivial hn (.dct k' rs'))⟩
            · exact p3.elim
          · exact p3.elim
        · exact p3.elim
      · exact p2.elim
    · exact p2.elim))⟩
omit [TabEnv] in
theorem io_add : InOp X .Add (rdI fun i j => i + j) := in_add
/-! ### xs[i] += j -/
omit [TabEnv] in
def dAugL (f : Int → Int → Int) (dob : M O) (di dv : M D) : M Fl := M.bind dob fun x => M.bind di fun k c => match k with
  | .v (.int z) => if 0 ≤ z then match rdlD c x with
    | some ds => match ds[z.toNat]? with
      | some (.v (.int i)) => M.bind dv (fun y c => match y with
        | .v (.int j) => match mutD c x with
          | some es => if z.toNat < es.length then .ok .nx (putL x (es.set z.toNat (.v (.int (f i j)))) c) else .no
          | none => .no
        | _ => .no) c
      | _ => .no
    | none => .no else .no
  | _ => .no
/-! ### t + u of tuples -/
/-! ### dict(pairs) -/
omit [TabEnv] in
def mergeD (kvs more : List (Key × D)) : List (Key × D) := more.foldl (fun acc kv => putD acc kv.1 kv.2) kvs
omit [TabEnv] in
theorem merge_rep {K : PySem.W.Frag} {F : Hp} {μ : List Addr} : ∀ {more : List (Key × V)} {ms : List (Key × D)} {kvs : List (Key × V)} {ks : List (Key × D)}, more.map (·.1) = ms.map (·.1) → Reps K F μ (more.map (·.2)) (ms.map (·.2)) → kvs.map (·.1) = ks.map (·.1) → Reps K F μ (kvs.map (·.2)) (ks.map (·.2)) →
    (mergeK kvs more).map (·.1) = (mergeD ks ms).map (·.1) ∧ Reps K F μ ((mergeK kvs more).map (·.2)) ((mergeD ks ms).map (·.2))
  | [], [], _, _, _, _, h, r => ⟨h, r⟩
  | [], _ :: _, _, _, h, _, _, _ => by cases h
  | _ :: _, [], _, _, h, _, _, _ => by cases h
  | (a1, a2) :: more, (f1, f2) :: ms, kvs, ks, h, r, h', r' => by
    rw [List.map_cons, List.map_cons] at h r
    obtain ⟨h1, h2⟩ := List.cons.inj h
    replace h1 : a1 = f1 := h1
    subst h1
    cases r with
    | cons r1 r2 =>
      obtain ⟨e1, e2⟩ := put_rep (k := a1) r1 h' r'
      exact merge_rep (kvs := putK kvs a1 a2) (ks := putD ks a1 f2) h2 r2 e1 e2
end
end My

set_option Elab.async false
set_option linter.all false
set_option maxRecDepth 100000
set_option maxHeartbeats 4000000
/-! F22: repr of tuples, in the law's own def alone (where no repr is under way). -/
namespace My
open PySem PySem.Spec L2
variable [TabEnv]
omit [TabEnv] in
mutual
inductive Tld (K : PySem.W.Frag) (H : Hp) : V → PyData → Prop
  | non : Tld K H .non .none
  | bl (b : Bool) : Tld K H (.bl b) (.bool b)
  | int (i : Int) : Tld K H (.int i) (.int i)
  | str (x : Str) : Tld K H (.str x) (.str x)
  | tup {a : Addr} {vs : List V} {ds : List PyData} : SqT K H a vs → Tlds K H vs ds → Tld K H (.ref a) (.tuple ds)
inductive Tlds (K : PySem.W.Frag) (H : Hp) : List V → List PyData → Prop
  | nil : Tlds K H [] []
  | cons {v : V} {d : PyData} {vs : List V} {ds : List PyData} : Tld K H v d → Tlds K H vs ds → Tlds K H (v :: vs) (d :: ds)
end
section
variable {X : Cx} {pins : List (Addr × Obj)} {σ : St} {H : Hp} {s : Shared}
omit [TabEnv] in
mutual
theorem tld_reads (I : Inv X pins σ H s) : ∀ {v : V} {d : PyData} {u : Value}, Tld X.K H v d → RelV v u → ∃ as, Reads s.heap u d as
  | _, _, _, .non, r => by cases (show _ = Value.none from r); exact ⟨_, .none⟩
  | _, _, _, .bl b, r => by cases (show _ = Value.bool b from r); exact ⟨_, .bool b⟩
  | _, _, _, .int i, r => by obtain ⟨t, rfl⟩ := (show ∃ t, _ = Value.int i t from r); exact ⟨_, .int i t⟩
  | _, _, _, .str x, r => by obtain ⟨t, rfl⟩ := (show ∃ t, _ = Value.str x t from r); exact ⟨_, .str x t⟩
  | _, _, _, .tup (a := a) h q, r => by
    cases (show _ = Value.ref a from r)
    obtain ⟨its, rv, ⟨o, h1, h2, n, h3⟩, _⟩ := I.tuple h
    obtain ⟨as, q2⟩ := tlds_reads I q rv
    exact ⟨as, .tuple h1 h2 h3 (by simpa using q2)⟩
theorem tlds_reads (I : Inv X pins σ H s) : ∀ {vs : List V} {ds : List PyData} {us : List Value}, Tlds X.K H vs ds → Vals vs us → ∃ as, ReadsAll s.heap us ds as
  | _, _, _, .nil, .nil => ⟨_, .nil⟩
  | _, _, _, .cons a b, .cons r rs => by
    obtain ⟨as, p⟩ := tld_reads I a r
    obtain ⟨bs, q⟩ := tlds_reads I b rs
    exact ⟨_, .cons p q⟩
end
end
omit [TabEnv] in
mutual
def pdOf : D → Option PyData
  | .v .non => some .none
  | .v (.bl b) => some (.bool b)
  | .v (.int i) => some (.int i)
  | .v (.str x) => some (.str x)
  | .tup ds => (pdsOf ds).map .tuple
  | _ => none
def pdsOf : List D → Option (List PyData)
  | [] => some []
  | d :: ds => match pdOf d, pdsOf ds with
    | some p, some ps => some (p :: ps)
    | _, _ => none
end
omit [TabEnv] in
mutual
theorem rep_tld {K : PySem.W.Frag} {F H : Hp} {μ : List Addr} (e : Same F H) : ∀ {v : V} {d : D} {p : PyData}, Rep K F μ v d → pdOf d = some p → Tld K H v p
  | _, _, _, .v x, h => by
    cases x <;> simp only [pdOf] at h <;> cases h <;> constructor
  | _, _, _, .tup (ds := ds) hq r, h => by
    simp only [pdOf] at h
    cases hp : pdsOf ds with
    | none => rw [hp] at h; cases h
    | some ps =>
      rw [hp] at h
      cases h
      exact .tup (Same.seqT e hq) (reps_tlds e r hp)
  | _, _, _, .lst _ _, h => by simp only [pdOf] at h; cases h
  | _, _, _, .scr _ _, h => by simp only [pdOf] at h; cases h
  | _, _, _, .dct _ _ _, h => by simp only [pdOf] at h; cases h
  | _, _, _, .ins _ _ _, h => by simp only [pdOf] at h; cases h
  | _, _, _, .loc _, h => by simp only [pdOf] at h; cases h
  | _, _, _, .exn0, h => by simp only [pdOf] at h; cases h
  | _, _, _, .exn1 _ _, h => by simp only [pdOf] at h; cases h
  | _, _, _, .exm _ _ _, h => by simp only [pdOf] at h; cases h
  | _, _, _, .tset _, h => by simp only [pdOf] at h; cases h
theorem reps_tlds {K : PySem.W.Frag} {F H : Hp} {μ : List Addr} (e : Same F H) : ∀ {vs : List V} {ds : List D} {ps : List PyData}, Reps K F μ vs ds → pdsOf ds = some ps → Tlds K H vs ps
  | _, _, _, .nil, h => by
    simp only [pdsOf] at h
    cases h
    exact .nil
  | _, _, _, .cons (d := d) (ds := ds) r rs, h => by
    simp only [pdsOf] at h
    cases hp : pdOf d with
    | none => rw [hp] at h; cases h
    | some p =>
      cases hq : pdsOf ds with
      | none => rw [hp, hq] at h; cases h
      | some ps =>
        rw [hp, hq] at h
        cases h
        exact .cons (rep_tld e r hp) (reps_tlds e rs hq)
end
omit [TabEnv] in
mutual
theorem pdOf_nd : ∀ {d : D} {p : PyData}, pdOf d = some p → p.hasDict = false
  | .v x, _, h => by
    cases x <;> simp only [pdOf] at h <;> cases h <;> simp only [PyData.hasDict]
  | .tup ds, _, h => by
    simp only [pdOf] at h
    cases hp : pdsOf ds with
    | none => rw [hp] at h; cases h
    | some ps =>
      rw [hp] at h
      cases h
      simp only [PyData.hasDict]
      exact pdsOf_nd hp
  | .lst _, _, h => by simp only [pdOf] at h; cases h
  | .scr _, _, h => by simp only [pdOf] at h; cases h
  | .dct _, _, h => by simp only [pdOf] at h; cases h
  | .ins _ _, _, h => by simp only [pdOf] at h; cases h
  | .loc _, _, h => by simp only [pdOf] at h; cases h
  | .exn _ _ _ _, _, h => by simp only [pdOf] at h; cases h
  | .exm _ _ _, _, h => by simp only [pdOf] at h; cases h
  | .tset _ _, _, h => by simp only [pdOf] at h; cases h
theorem pdsOf_nd : ∀ {ds : List D} {ps : List PyData}, pdsOf ds = some ps → PyData.hasDictAll ps = false
  | [], _, h => by
    simp only [pdsOf] at h
    cases h
    simp only [PyData.hasDictAll]
  | d :: ds, _, h => by
    simp only [pdsOf] at h
    cases hp : pdOf d with
    | none => rw [hp] at h; cases h
    | some p =>
      cases hq : pdsOf ds with
      | none => rw [hp, hq] at h; cases h
      | some ps =>
        rw [hp, hq] at h
        cases h
        simp only [PyData.hasDictAll, pdOf_nd hp, pdsOf_nd hq, Bool.or_self]
end
section
variable {X : Cx} {W : WX}
end
omit [TabEnv] in
/-- a def's promise where no repr is under way -/
structure FnG (P : Program) (w : World) (K : PySem.W.Frag) (mg : Str → Option Value) (base : Heap) (CX : CXT) (k : Nat) (f : Addr) (fd : FuncData) (ps : List Str) (sp : Sp) : Prop where
  run : ∀ (A : Around) (outer : List Env) (s : Shared) (H : Hp) (args : Args) (us : List Value) (vs : List V) (Q : VK) (E : XK), A.guards = some [] → Room k A → Env0 P w K mg base A outer s H → BindsTo s fd args (ps.zip us) → Vals vs us → sp vs H Q E →
    codeAny (model P w) A (.call (.ref f) args) (CR CX outer P w H s Q E) s
omit [TabEnv] in
/-- what is known of the script, nothing else -/
structure Fresh (K : PySem.W.Frag) (H : Hp) (h : Heap) (a : Addr) (xs : List V) : Prop where
  dom : ∀ b u, H b = some u → b = a ∧ K.lookup a = none ∧ ∃ o, h.get? a = some o ∧ u = .frz o (.lst xs)
  sq : SqL K H a xs
section
variable {P : Program} {w : World} {K : PySem.W.Frag} {mg mb : Str → Option Value} {s : Shared} {a : Addr} {vs : List Value} {xs : List V}
end
end My

set_option Elab.async false
set_option linter.all false
set_option maxRecDepth 100000
set_option maxHeartbeats 4000000
/-! F23: enumerate and zip of lists and tuples, in any mix. -/
namespace My
open PySem PySem.Spec L2
variable [TabEnv]
/-! ### a list (false) or a tuple (true) -/
omit [TabEnv] in
def SqK (k : Bool) (K : PySem.W.Frag) (H : Hp) (a : Addr) (xs : List V) : Prop := bif k then SqT K H a xs else SqL K H a xs
omit [TabEnv] in
def IsK (k : Bool) (h : Heap) (a : Addr) (its : Array Value) : Prop := bif k then h.IsTuple a its else h.IsList a its
omit [TabEnv] in
def ItK (k : Bool) (h : Heap) (it a : Addr) (i : Nat) : Prop := bif k then h.IsTupleIter it a i else h.IsListIter it a i
omit [TabEnv] in
def iterObj (k : Bool) (a : Addr) : Obj := bif k then { cls := .type "tuple_iterator", data := .fields #[.ref a, .int 0 0] } else { cls := .type "list_iterator", data := .fields #[.ref a, .int 0 0] }
omit [TabEnv] in
theorem ItK.get {k : Bool} {h : Heap} {it a : Addr} {i : Nat} (q : ItK k h it a i) : ∃ o, h.get? it = some o ∧ ∃ fs, o.data = .fields fs := by
  cases k with
  | true => obtain ⟨o, h1, _, h2⟩ := (show h.IsTupleIter it a i from q); exact ⟨o, h1, _, h2⟩
  | false => obtain ⟨o, h1, _, h2⟩ := (show h.IsListIter it a i from q); exact ⟨o, h1, _, h2⟩
omit [TabEnv] in
theorem ItK.keep {k : Bool} {h h' : Heap} {it a : Addr} {i : Nat} (q : ItK k h it a i) (e : ∀ o, h.get? it = some o → h'.get? it = some o) : ItK k h' it a i := by
  cases k with
  | true => exact Heap.IsTupleIter.at (show h.IsTupleIter it a i from q) e
  | false => exact Heap.IsListIter.at (show h.IsListIter it a i from q) e
omit [TabEnv] in
theorem ItK.new {k : Bool} {h : Heap} {it a : Addr} (q : h.get? it = some (iterObj k a)) : ItK k h it a 0 := by
  cases k with
  | true => exact ⟨_, q, rfl, rfl⟩
  | false => exact ⟨_, q, rfl, rfl⟩
omit [TabEnv] in
theorem begins_k (k : Bool) (a : Addr) (its : Array Value) : Begins (.ref a) (iterObj k a) fun h => IsK k h a its := by
  cases k with
  | true => exact begins_tuple a its
  | false => exact begins_list a its
section
variable {X : Cx} {pins : List (Addr × Obj)} {σ : St} {H : Hp} {s : Shared}
omit [TabEnv] in
theorem Inv.seqK (I : Inv X pins σ H s) {k : Bool} {a : Addr} {xs : List V} (h : SqK k X.K H a xs) : ∃ its : List Value, Vals xs its ∧ IsK k s.heap a its.toArray ∧ a < s.heap.objs.size := by
  cases k with
  | true =>
    obtain ⟨its, r, p, _⟩ := L2.Inv.tuple I (show SqT X.K H a xs from h)
    exact ⟨its, r, p, p.lt⟩
  | false =>
    obtain ⟨its, r, p, _⟩ := L2.Inv.list I (show SqL X.K H a xs from h)
    exact ⟨its, r, p.isList, p.lt⟩
end
/-! ### enumerate -/
/-! ### zip -/
/-! ### the images -/
omit [TabEnv] in
theorem SqK.same {k : Bool} {K : PySem.W.Frag} {F H : Hp} {a : Addr} {vs : List V} (s : Same F H) (h : SqK k K F a vs) : SqK k K H a vs := by
  cases k with
  | true => exact Same.seqT s (show SqT K F a vs from h)
  | false => exact s.seq (show SqL K F a vs from h)
section
variable {X : Cx} {W : WX}
end
end My

set_option Elab.async false
set_option linter.all false
set_option maxRecDepth 100000
set_option maxHeartbeats 4000000
/-! F24: isinstance by a table of classes; defs that call themselves. -/
namespace My
open PySem L2
variable [TabEnv]
section
variable {X : Cx} {W : WX} {a : Expr} {pos : Pos}
end
/-! ### xs + ys, a list of one's own -/
section
variable {X : Cx} {W : WX} {a b : Expr} {pos : Pos} {ta tb : TE}
end
/-! ### str(..) of ints and texts -/
section
variable {X : Cx} {W : WX}
end
end My

set_option Elab.async false
set_option linter.all false
set_option maxRecDepth 100000
set_option maxHeartbeats 4000000
/-! T02: stations as plain data, their words and their texts. -/
namespace My
open PySem L2
abbrev sD (x : Str) : D := .v (.str x)
def Ss (ts : List Str) : List D := ts.map fun p => D.v (V.str p)
/-- numbers as words -/
def nt (i : Int) : Str := toString i
/-- words that stand by themselves -/
def nw (w : Str) : Prop := w ≠ (Str.ofString ".") ∧ w ≠ (Str.ofString ",")
instance (w : Str) : Decidable (nw w) := by
  unfold nw
  infer_instance
def gap (w : Str) : Str := if w = (Str.ofString ".") ∨ w = (Str.ofString ",") then (Str.ofString "") else (Str.ofString " ")
/-- the words behind, with blanks -/
def sp : List Str → Str
  | [] => (Str.ofString "")
  | w :: ws => gap w ++ w ++ sp ws
/-- pieces with blanks -/
def bl : List Str → Str
  | [] => (Str.ofString "")
  | w :: ws => (Str.ofString " ") ++ w ++ bl ws
def cm (ts : List Str) : List Str := ts.flatMap fun x => [(Str.ofString ","), x]
/-- one rest, as it is told -/
def rt1 (p : Int × Int) : List Str := [nt p.1, (Str.ofString "to"), nt p.2]
def rtx (p : Int × Int) : Str := Str.join (Str.ofString " to ") [nt p.1, nt p.2]
def rsW : List (Int × Int) → List Str
  | [] => []
  | p :: rs => (Str.ofString "rests") :: rt1 p ++ rs.flatMap fun p => (Str.ofString ",") :: rt1 p
/-- a station as it is told -/
inductive Sta where
  | pool (n : Str) (z : Int)
  | doorA (n : Str) (r : Int) (ts : List Int) (t : Str)
  | doorD (n : Str) (r a b c d e : Int) (t : Str)
  | way (n : Str) (z : Int) (t : Str)
  | desk (n : Str) (h : Int) (ts : List Int) (k : Bool) (rs : List (Int × Int)) (t : Str)
  | opens (n : Str) (a b : Int) (t : Str)
  | below (n : Str) (a : Int) (o t : Str)
  | fork (n r t : Str) (ts : List Str)
  | lend (n p t : Str)
  | give (n p t : Str)
  | exit (n : Str)
def pD (p : Int × Int) : D := .tup [.v (.int p.1), .v (.int p.2)]
def Sta.row : Sta → List D
  | .pool n z => [sD (Str.ofString "pool"), sD n, .v (.int z)]
  | .doorA n r ts t => [sD (Str.ofString "door"), sD n, .v (.int r), .tup [sD (Str.ofString "at"), .tup (ts.map I)], sD t]
  | .doorD n r a b c d e t => [sD (Str.ofString "door"), sD n, .v (.int r), .tup [sD (Str.ofString "draws"), .v (.int a), .v (.int b), .v (.int c), .v (.int d), .v (.int e)], sD t]
  | .way n z t => [sD (Str.ofString "way"), sD n, .v (.int z), sD t]
  | .desk n h ts k rs t => [sD (Str.ofString "desk"), sD n, .v (.int h), .tup (ts.map I), .v (.bl k), .tup (rs.map pD), sD t]
  | .opens n a b t => [sD (Str.ofString "gate"), sD n, .tup [sD (Str.ofString "opens"), .v (.int a), .v (.int b)], sD t]
  | .below n a o t => [sD (Str.ofString "gate"), sD n, .tup [sD (Str.ofString "below"), .v (.int a), sD o], sD t]
  | .fork n r t ts => [sD (Str.ofString "fork"), sD n, sD r, .tup (Ss (t :: ts))]
  | .lend n p t => [sD (Str.ofString "lend"), sD n, sD p, sD t]
  | .give n p t => [sD (Str.ofString "give"), sD n, sD p, sD t]
  | .exit n => [sD (Str.ofString "exit"), sD n]
def Sta.kind : Sta → Str
  | .pool _ _ => (Str.ofString "pool")
  | .doorA _ _ _ _ => (Str.ofString "door")
  | .doorD _ _ _ _ _ _ _ _ => (Str.ofString "door")
  | .way _ _ _ => (Str.ofString "way")
  | .desk _ _ _ _ _ _ => (Str.ofString "desk")
  | .opens _ _ _ _ => (Str.ofString "gate")
  | .below _ _ _ _ => (Str.ofString "gate")
  | .fork _ _ _ _ => (Str.ofString "fork")
  | .lend _ _ _ => (Str.ofString "lend")
  | .give _ _ _ => (Str.ofString "give")
  | .exit _ => (Str.ofString "exit")
def Sta.name : Sta → Str
  | .pool n _ => n
  | .doorA n _ _ _ => n
  | .doorD n _ _ _ _ _ _ _ => n
  | .way n _ _ => n
  | .desk n _ _ _ _ _ => n
  | .opens n _ _ _ => n
  | .below n _ _ _ => n
  | .fork n _ _ _ => n
  | .lend n _ _ => n
  | .give n _ _ => n
  | .exit n => n
def rkW (r : Int) : List Str := if 0 < r then [(Str.ofString "rank"), nt r] else []
/-- the words behind the name, without the point -/
def Sta.wds : Sta → List Str
  | .pool n z => [(Str.ofString "holds"), nt z]
  | .doorA n r ts t => rkW r ++ (Str.ofString "at") :: ts.map nt ++ [(Str.ofString "then"), t]
  | .doorD n r a b c d e t => rkW r ++ [(Str.ofString "draws"), nt a, (Str.ofString "upto"), nt b, (Str.ofString "gaps"), nt c, (Str.ofString "to"), nt d, (Str.ofString "from"), nt e, (Str.ofString "then"), t]
  | .way n z t => [(Str.ofString "takes"), nt z, (Str.ofString "then"), t]
  | .desk n h ts k rs t => [(Str.ofString "hands"), nt h, (Str.ofString "takes")] ++ ts.map nt ++ (if k then [(Str.ofString "ranked")] else []) ++ rsW rs ++ [(Str.ofString "then"), t]
  | .opens n a b t => [(Str.ofString "opens"), nt a, (Str.ofString "for"), nt b, (Str.ofString "then"), t]
  | .below n a o t => [(Str.ofString "below"), nt a, (Str.ofString "at"), o, (Str.ofString "then"), t]
  | .fork n r t ts => [(Str.ofString "by"), r, (Str.ofString "then"), t] ++ cm ts
  | .lend n p t => [(Str.ofString "of"), p, (Str.ofString "then"), t]
  | .give n p t => [(Str.ofString "of"), p, (Str.ofString "then"), t]
  | .exit n => []
/-- the pieces behind the name -/
def Sta.pcs : Sta → List Str
  | .fork n r t ts => [(Str.ofString "by"), r, (Str.ofString "then"), Str.join (Str.ofString ", ") (t :: ts)]
  | .desk n h ts k rs t => [(Str.ofString "hands"), nt h, (Str.ofString "takes")] ++ ts.map nt ++ (if k then [(Str.ofString "ranked")] else []) ++ (if rs = [] then [] else [(Str.ofString "rests"), Str.join (Str.ofString ", ") (rs.map rtx)]) ++ [(Str.ofString "then"), t]
  | s => s.wds
def Sta.text (s : Sta) : Str := Str.join (Str.ofString " ") (s.kind :: s.name :: s.pcs) ++ (Str.ofString ".")
/-- a name of the law's -/
def gw (x : Str) : Prop := nw x ∧ x.length ≤ 8
def gi (i : Int) : Prop := 0 ≤ i ∧ i ≤ 9999
def Sta.ok : Sta → Prop
  | .pool n z => gw n ∧ gi z
  | .doorA n r ts t => gw n ∧ gi r ∧ (∀ i ∈ ts, gi i) ∧ ts.length ≤ 12 ∧ gw t
  | .doorD n r a b c d e t => gw n ∧ gi r ∧ gi a ∧ gi b ∧ gi c ∧ gi d ∧ gi e ∧ gw t
  | .way n z t => gw n ∧ gi z ∧ gw t
  | .desk n h ts k rs t => gw n ∧ gi h ∧ (∀ i ∈ ts, gi i) ∧ ts.length ≤ 4 ∧ (∀ p ∈ rs, gi p.1 ∧ gi p.2) ∧ rs.length ≤ 3 ∧ gw t
  | .opens n a b t => gw n ∧ gi a ∧ gi b ∧ gw t
  | .below n a o t => gw n ∧ gi a ∧ gw o ∧ gw t
  | .fork n r t ts => gw n ∧ gw r ∧ gw t ∧ (∀ w ∈ ts, gw w) ∧ ts.length ≤ 3
  | .lend n p t => gw n ∧ gw p ∧ gw t
  | .give n p t => gw n ∧ gw p ∧ gw t
  | .exit n => gw n
end My

set_option Elab.async false
set_option linter.all false
set_option maxRecDepth 100000
set_option maxHeartbeats 4000000
/-! F25: int of a text, the empty text in a text, o.clear(). -/
namespace My
open PySem L2
variable [TabEnv]
/-! ### no sign in a text -/
section
variable {X : Cx} {W : WX}
/-! ### int(text) -/
/-! ### o.clear() -/
section
variable {o : Expr} {to : TE} {pos apos : Pos} {dob : M O}
end
/-! ### a module's constants -/
section
variable {pos : Pos}
end
end
end My

set_option Elab.async false
set_option linter.all false
set_option maxRecDepth 100000
set_option maxHeartbeats 4000000
/-! F26: d.get(k, x). -/
namespace My
open PySem L2
variable [TabEnv]
section
variable {X : Cx} {W : WX} {o e f : Expr} {apos cpos : Pos} {td ty tx : TE} {dob : M O} {di dv : M D}
/-! ### a text times a number -/
omit [TabEnv] in
instance (x : Str) (n : Int) : Decidable (MulOk x n) := by
  unfold MulOk
  infer_instance
end
end My

set_option Elab.async false
set_option linter.all false
set_option maxRecDepth 100000
set_option maxHeartbeats 4000000
/-! F27: own exceptions: raised, caught, looked at; defs as values. -/
namespace My
open PySem L2
variable [TabEnv]
/-! ### raise C("..") -/
omit [TabEnv] in
def veRow : List Value := [.type "ValueError", .type "Exception", .type "BaseException", .type "object"]
omit [TabEnv] in
structure Rais (K : PySem.W.Frag) (mg : Str → Option Value) (x : Str) (C : Addr) : Prop where
  q : PySem.W.excIn K C veRow "ValueError.__new__" = true
  g : mg x = some (.ref C)
  k : PySem.W.keepIn K (.ref C) = true
  s : PySem.W.subIn K (.ref C) (.type "BaseException") = some true
  t : PySem.W.typeIn K (.ref C) = some (.type "type")
section
variable {X : Cx} {W : WX} {pos pos' : Pos}
end
/-! ### try: .., except C as e: .. -/
section
variable {X : Cx} {W : WX} {pos pos' np : Pos} {i : Nat} {x n : Str} {Cx0 : Addr} {cat : List Addr} {body suite : List Stmt} {b₀ : Stmt} {tb : WX → TS} {ts : Addr → Value → Option Addr → TS} {db : M Fl} {hd : Addr → Option Addr → Value → M Fl}
end
/-! ### isinstance(e, C), e an exception that is held -/
section
variable {X : Cx} {a C : Addr} {cls : Value} {oe : Obj} {d : Option Addr}
end
section
variable {X : Cx} {W : WX} {pos : Pos}
end
/-! ### a local that holds a def, called -/
def HeldG (P : Program) (w : World) (K : PySem.W.Frag) (mg : Str → Option Value) (base : Heap) (k : Nat) (f : Addr) (g : G) : Prop :=
  ∃ (fd : FuncData) (ps : List Str), FnOk P w K mg base (L2N.CX P w) k f fd ps (spG K g) ∧ PySem.W.keepIn K (.ref f) = true ∧ ∀ us : List Value, us.length = ps.length → bindArgs fd ⟨us, []⟩ = pure (ps.zip us)
theorem HeldG.of {P : Program} {w : World} {K : PySem.W.Frag} {mg : Str → Option Value} {base : Heap} {j k : Nat} {x : Str} {ps : List Str} {f : Addr} {g : G} (h : Okf P w K mg base j x ps g) (hm : mg x = some (.ref f)) (hj : j ≤ k) : HeldG P w K mg base k f g := by
  obtain ⟨f', fd, F, h1, h2, h3⟩ := h
  rw [hm] at h1
  cases h1
  exact ⟨fd, ps, F.mono hj, h2, h3⟩
section
variable {X : Cx} {W : WX} {pos p : Pos}
end
/-! ### t + u of tuples, any of them perhaps empty -/
omit [TabEnv] in
def gCat3 : O → O → M D := fun a b c => match tupD a, tupD b with
  | some ds, some es => if ds.length + es.length ≤ 1000000 then .ok (.tup (ds ++ es)) c else .no
  | _, _ => .no
omit [TabEnv] in
theorem tup_rep {K : PySem.W.Frag} {F : Hp} {μ : List Addr} {σ : St} {v : V} {o : O} {ds : List D} (r : RepO K F μ σ v o) (e : tupD o = some ds) : Rep K F μ v (.tup ds) := by
  unfold tupD at e
  cases r with
  | d r =>
    cases r with
    | tup hs r => cases e; exact .tup hs r
    | _ => cases e
  | sl hs => cases e
theorem r2_cat3 {K : PySem.W.Frag} {W : WX} : R2S K W (rCatA K) gCat3 := fun Z F μ c σ H Q x y a b R rx ry p => by
  unfold gCat3 at p
  split at p
  · next ds es e1 e2 =>
    have rep := tup_rep rx e1
    have rep2 := tup_rep ry e2
    obtain ⟨l, vs, rfl, h1, q1⟩ := tup_at R rx e1
    obtain ⟨m, ws, rfl, h2, q2⟩ := tup_at R ry e2
    split at p
    · next hz =>
      have hl : vs.length + ws.length ≤ 1000000 := by rw [q1.length, q2.length]; exact hz
      refine ⟨l, m, vs, ws, rfl, rfl, h1, h2, small6 hl, fun z => ?_, fun _ z => ?_, fun _ _ t ht => ?_⟩
      · subst z
        cases q1
        exact p F μ H (Le.refl _ _) R _ rep2
      · subst z
        cases q2
        rw [List.append_nil] at p
        exact p F μ H (Le.refl _ _) R _ rep
      · obtain ⟨R2, l2⟩ := R.new (o := .tup (vs ++ ws)) ht
        exact p _ _ _ l2 R2 _ (.tup (.of upd_same) ((q1.append q2).mono l2))
    · exact p.elim
  · exact p.elim
theorem dd_cat3 {X : Cx} {W : WX} {a b : Expr} {ta tb : TE} {pos : Pos} {K : PySem.W.Frag} {da db : M O} (ha : ED X W a ta da) (hb : ED X W b tb db) (hK : X.K = K := by rfl) : DD X W (.BinOp a .Add b pos) (tOp (rCatA K) ta tb) (dOp gCat3 da db) := by
  subst hK
  exact dd_op op_catA r2_cat3 ha hb
section
variable {X : Cx} {W : WX} {pos : Pos}
end
end My

set_option Elab.async false
set_option linter.all false
set_option maxRecDepth 100000
set_option maxHeartbeats 4000000
/-! F28: lambdas: made, called, as keys of max and min. -/
namespace My
open PySem PySem.Spec L2 LamX NdefX PyProof.Rows
variable [TabEnv]
section
variable {X : Cx} {pins : List (Addr × Obj)} {σ : L2.St} {H : Hp} {s : Shared}
omit [TabEnv] in
theorem lamO_at {P : Program} {w : World} {h : Heap} {f c : Addr} {q : Str} {params : Arguments} {body : Expr} {scope : Scope} {cl : List (Str × Addr)} (hok : HOk P w H h) (e : H f = some (LamO f q params body scope cl c)) :
    ∃ (pm ctv : Value), h.get? f = some (PySem.W.kla_obj "<lambda>" q params body scope cl pm c ctv) := (hok f _ e).1
omit [TabEnv] in
/-- a lambda just pushed -/
theorem inv_lam {q : Str} {params : Arguments} {body : Expr} {scope : Scope} {cl : List (Str × Addr)} {c : Addr} {pm ctv : Value} {tk : Nat} (I : Inv X pins σ H s) :
    Inv X pins σ (upd H s.heap.objs.size (LamO s.heap.objs.size q params body scope cl c)) { s with heap := s.heap.push (PySem.W.kla_obj "<lambda>" q params body scope cl pm c ctv), toks := tk } := by
  have at0 : (s.heap.push (PySem.W.kla_obj "<lambda>" q params body scope cl pm c ctv)).get? s.heap.objs.size = some (PySem.W.kla_obj "<lambda>" q params body scope cl pm c ctv) := Heap.get?_push_size _ rfl
  exact I.laid (a := s.heap.objs.size) (fun b u z => Heap.get?_push_of_some _ z) (Nat.le_refl _) ⟨⟨pm, ctv, at0⟩, ⟨_, at0⟩, fun g1 g2 ⟨a1, a2, z⟩ st => ⟨a1, a2, st _ z⟩⟩
omit [TabEnv] in
/-- a lambda is made: its function object is tracked; the table's code objects: those of before, and one more -/
theorem lam_new {c P : Addr} {ps0 : Array Value} {params : Arguments} {body : Expr} {scope : Scope} {pos : Pos} {E Q : Value → Shared → Prop} (I : Inv X pins σ H s) (TB : TabB X.base X.mg c P) (hcode : X.env.code = .ref c)
    (tb0 : H P = some (.tbl ps0)) (trip : TriplesOk ps0.toList) (know : ∀ (pos : Pos) (cv : Value), codeAmong pos ps0.toList = some cv → ∃ c, cv = .ref c ∧ H c = some (CodeO c (X.env.qual ++ "<lambda>"))) (hdef : defaultsOf params X.env = ([], [])) (fr : ∀ y ∈ scope.names, y.2 = .free → ∃ a, X.env.cells.lookup y.1 = some a)
    (k : ∀ (f c' : Addr) (H1 : Hp) (s' : Shared) (ps1 : Array Value), Inv X pins σ H1 s' → (∀ b o, b ≠ P → H b = some o → H1 b = some o) → H1 P = some (.tbl ps1) → TriplesOk ps1.toList →
      (∀ (pos : Pos) (cv : Value), codeAmong pos ps1.toList = some cv → codeAmong pos ps0.toList = some cv ∨ cv = .ref c') → H f = none → (H c' = none ∨ ∃ pos, codeAmong pos ps0.toList = some (.ref c')) → f ≠ c' →
      H1 f = some (LamO f (X.env.qual ++ "<lambda>") params body scope (cloFrom X.env.cells scope.names []) c') → H1 c' = some (CodeO c' (X.env.qual ++ "<lambda>")) → Q (.ref f) s') :
    wpAny (model X.prog X.w) X.A (eval (.Lambda params body scope pos) X.env) Q E s := by
  have bld : s.heap.BuiltinsAt X.mg P := TB.bm.keeps I.bk
  have obP : s.heap.get? P = some { cls := .none, data := .fields ps0 } := I.hok P _ tb0
  refine PySem.W.kla_eval hdef ?_
  cases found : codeAmong pos ps0.toList with
  | some cv =>
    obtain ⟨c', rfl, isCode⟩ := know pos cv found
    refine PySem.W.kla_makeFunctionHit (mg := X.mg) (c := c) (P := P) (ps := ps0) (closure_ok fr) I.ok.glob (I.mod.glob.keeps I.bk) hcode (TB.code.keeps I.bk) obP trip found bld fun ctv g tk grow hsz => ?_
    have J0 : Inv X pins σ H { s with heap := g, toks := tk } := I.kept fun b o z => grow b o z
    have J := inv_lam (q := X.env.qual ++ "<lambda>") (params := params) (body := body) (scope := scope) (cl := cloFrom X.env.cells scope.names []) (c := c') (pm := (X.mg "__name__").getD .none) (ctv := ctv) (tk := tk) J0
    have nf : H g.objs.size = none := I.hok.fresh hsz
    have sm : Same H (upd H g.objs.size (LamO g.objs.size (X.env.qual ++ "<lambda>") params body scope (cloFrom X.env.cells scope.names []) c')) := same_new nf
    exact k g.objs.size c' _ _ ps0 J (fun b o _ z => sm b o z) (sm _ _ tb0) trip (fun pos cv z => .inl z) nf (.inr ⟨pos, found⟩) (fun z => by rw [z, isCode] at nf; cases nf) upd_same (sm _ _ isCode)
  | none =>
    refine PySem.W.kla_makeFunction (mg := X.mg) (c := c) (P := P) (ps := ps0) (closure_ok fr) I.ok.glob (I.mod.glob.keeps I.bk) hcode (TB.code.keeps I.bk) obP trip found TB.gP bld fun c' ctv g tk grow ge lt rec_ at_ => ?_
    obtain ⟨c2, oc, vs, t, e2, hoc, hd, hv⟩ := rec_
    cases e2
    have nC : H c' = none := I.hok.fresh ge
    have J0 := inv_table (t' := tk) (more := #[rawInt pos.line, rawInt pos.col, .ref c']) (h' := g) I tb0 (fun b o ne z => grow b o ne z) at_ ge ⟨oc, vs, t, hoc, hd, hv⟩
    have hsz : s.heap.objs.size ≤ g.objs.size := Nat.le_trans ge (Nat.le_of_lt lt)
    obtain ⟨HT, hHT⟩ : ∃ HT, HT = upd (upd H P (.tbl (ps0 ++ #[rawInt pos.line, rawInt pos.col, .ref c']))) c' (CodeO c' (X.env.qual ++ "<lambda>")) := ⟨_, rfl⟩
    rw [← hHT] at J0
    have atP : HT P = some (.tbl (ps0 ++ #[rawInt pos.line, rawInt pos.col, .ref c'])) := by rw [hHT, upd_ne (ne_of_none tb0 nC), upd_same]
    have atC : HT c' = some (CodeO c' (X.env.qual ++ "<lambda>")) := by rw [hHT, upd_same]
    have else_ : ∀ b, b ≠ P → b ≠ c' → HT b = H b := fun b n1 n2 => by rw [hHT, upd_ne n2, upd_ne n1]
    have J := inv_lam (q := X.env.qual ++ "<lambda>") (params := params) (body := body) (scope := scope) (cl := cloFrom X.env.cells scope.names []) (c := c') (pm := (X.mg "__name__").getD .none) (ctv := ctv) (tk := tk) J0
    have nf0 : H g.objs.size = none := I.hok.fresh hsz
    have nfc : g.objs.size ≠ c' := Nat.ne_of_gt lt
    have nf : HT g.objs.size = none := by
      rw [else_ _ (Nat.ne_of_gt (Nat.lt_of_lt_of_le (Heap.lt_size obP) hsz)) nfc]
      exact nf0
    have sm : Same HT (upd HT g.objs.size (LamO g.objs.size (X.env.qual ++ "<lambda>") params body scope (cloFrom X.env.cells scope.names []) c')) := same_new nf
    have el : (ps0 ++ #[rawInt pos.line, rawInt pos.col, .ref c']).toList = ps0.toList ++ [rawInt pos.line, rawInt pos.col, .ref c'] := by simp
    refine k g.objs.size c' _ _ _ J (fun b o n1 z => sm b o (by rw [else_ b n1 (ne_of_none z nC)]; exact z)) (sm _ _ atP) (by rw [el]; exact PySem.TriplesOk_snoc _ _ _ _ trip) (fun p' cv hcv => ?_) nf0 (.inl nC) nfc upd_same (sm _ _ atC)
    rw [el] at hcv
    exact among_app _ trip hcv
end
/-- the lambda's words, as the names' lore wants them -/
def lamNF (q : Str) (params : Arguments) (scope : Scope) (cl : List (Str × Addr)) (c : Addr) : NF := ⟨"<lambda>", q, params, [], scope, cl, c⟩
omit [TabEnv] in
/-- a lambda called: by its body -/
theorem lam_run {CX : CXT} {P : Program} {w : World} {K : PySem.W.Frag} {mg : Str → Option Value} {base : Heap} {N ps fr : List Str} {k : Nat} {f c : Addr} {q : Str} {params : Arguments} {body : Expr} {scope : Scope} {cl : List (Str × Addr)} (S : NScope N ps fr scope)
    (hb : ∀ (pm ctv : Value) (us : List Value), us.length = ps.length → bindArgs (PySem.W.kla_fn "<lambda>" q params body scope cl pm (.ref c) ctv) ⟨us, []⟩ = pure (ps.zip us))
    {A : Around} {outer : List Env} {s : Shared} {H : Hp} {us : List Value} {vs : List V} {ws : List (Option V)} {Q : VK} {E : XK} {t : TE} (hr : Room (k + 1) A) (e0 : Env0 P w K mg base A outer s H) (hf : H f = some (LamO f q params body scope cl c)) (hc : H c = some (CodeO c q))
    (C : CellsAt cl fr ws s.heap H) (r : Vals vs us) (hl : vs.length = ps.length)
    (hbody : Room k (A.deeper (envF (lamNF q params scope cl c) f s.heap.objs.size)) → PE (ncx CX P w K mg base N (lamNF q params scope cl c) f A outer s H E) body t ∧ t (startF N vs ws) H Q) :
    codeAny (model P w) A (.call (.ref f) ⟨us, []⟩) (CR CX outer P w H s Q E) s := by
  have lim : s.heap.NoLimit := e0.mod.nolimit.keeps fun b o z => (e0.bs b o z).1
  obtain ⟨pm, ctv, ho⟩ := lamO_at e0.hok hf
  refine PySem.W.kla_callFunE hr.depth ho rfl S.co S.gen rfl (codeO_at e0.hok hc) ?_
  rw [hb pm ctv us (by rw [← r.length]; exact hl)]
  refine wpAny_pure (wpAny_newFunctionEnv S.nocell (fun ⟨n, _⟩ hy => S.par n (List.of_mem_zip hy).1) (fun g hns hsb => ⟨lim.fresh _ hsb, ?_⟩) S.kind)
  show codeAny _ _ (.expr body (envF (lamNF q params scope cl c) f s.heap.objs.size)) _ _
  obtain ⟨pe, ht⟩ := hbody (hr.deeper _)
  have grow : ∀ b o, s.heap.get? b = some o → g.get? b = some o := fun b o z => hsb.extBut b o (Nat.ne_of_lt (Heap.lt_size z)) (Heap.get?_push_of_some _ z)
  have J : Inv (ncx CX P w K mg base N (lamNF q params scope cl c) f A outer s H E) [] (startF N vs ws) H { s with heap := g, toks := s.toks + (ps.zip us).length } := inv_startN S hr.hd e0 hl r C hns grow
  refine PySem.W.kla_codeExpr (wpAny_mono (pe.run [] _ _ H Q J ht) (fun v s' hq => ?_) fun _ _ hq => hq)
  obtain ⟨v', H', J', rv, hq⟩ := hq
  exact ⟨v', H', J'.os, J'.bare, J'.base, J'.hok, rv, hq⟩
end My

set_option Elab.async false
set_option linter.all false
set_option maxRecDepth 100000
set_option maxHeartbeats 4000000
/-! F29: max and min with a lambda as key. -/
namespace My
open PySem PySem.Spec L2 LamX NdefX PyProof.Rows
variable [TabEnv]
/-- what a lambda's body computes: n slots (parameters, captured names, the rest) -/
def lamG (n : Nat) (de : M D) : G := fun ds S => match de ⟨ds.map .d ++ List.replicate (n - ds.length) .no, S⟩ with
  | .ok x c => .ok x c.S
  | _ => .no
omit [TabEnv] in
theorem cx_no {P : Program} {w : World} {outer : List Env} {H : Hp} {s s' : Shared} {e : Value} (c : L2N.CX P w outer H s E00 e s') : False := by
  obtain ⟨_, _, _, _, _, _, _, _, _, _, _, _, z⟩ := c
  exact z.elim
theorem rel_strip {K : PySem.W.Frag} {Z F : Hp} {μ : List Addr} {c : Stt} {σ : L2.St} {H : Hp} (h : Rel K Z F μ c σ H) : Rel K Z F μ ⟨[], c.S⟩ [] H :=
  { ex := h.ex, exz := h.exz, fz := h.fz, len := rfl, slot := fun i x e => by simp at e, own := fun i x e => by simp at e, dis := fun i j a m m' e => by simp at e, lm := h.lm, sto := h.sto, dst := fun i n a m e => by simp at e, ndm := h.ndm, tab := h.tab }
omit [TabEnv] in
theorem startF_some (N : List Str) (vs ws : List V) : startF N vs (ws.map some) = L2.start N (vs ++ ws) := by
  unfold startF L2.start
  rw [List.map_append, List.append_assoc, List.length_append, List.length_map, Nat.sub_sub]
/-- slots that hold data -/
def Capt (c : Stt) (js : List Nat) (xs : List D) : Prop := js.map (fun j => c.r[j]?) = xs.map fun x => some (.d x)
theorem capt_vals {K : PySem.W.Frag} {Z F : Hp} {μ : List Addr} {c : Stt} {σ : L2.St} {H : Hp} (R : Rel K Z F μ c σ H) : ∀ {js : List Nat} {xs : List D}, Capt c js xs → ∃ ws : List V, js.map (slotAt σ) = ws.map some ∧ Reps K F μ ws xs
  | [], [], _ => ⟨[], rfl, .nil⟩
  | [], _ :: _, h => by cases h
  | _ :: _, [], h => by cases h
  | j :: js, x :: xs, h => by
    have h0 : c.r[j]? = some (.d x) := (List.cons.inj h).1
    obtain ⟨ws, e, r⟩ := capt_vals R (js := js) (xs := xs) (List.cons.inj h).2
    obtain ⟨v, ev, rv⟩ := R.slot j x h0
    refine ⟨v :: ws, ?_, .cons rv r⟩
    rw [List.map_cons, List.map_cons, e, slotAt_of ev]
section
variable {X : Cx} {pins : List (Addr × Obj)}
/-- a lambda with one parameter, called by a built-in: c its maker's state -/
theorem key_call {K : PySem.W.Frag} {Z F : Hp} {μ : List Addr} {c : Stt} {σ : L2.St} {H : Hp} {s : Shared} {A : Around} {N fr : List Str} {p : Str} {js : List Nat} {k : Nat} {f c' : Addr} {q : Str} {params : Arguments} {body : Expr} {scope : Scope} {cl : List (Str × Addr)} {de : M D} {xs : List D} {x y : D} {S' : List Cell} {u : Value} {v : V}
    (hK : X.K = K) (I : Inv X pins σ H s) (R : Rel K Z F μ c σ H) (S : NScope N [p] fr scope) (hb : ∀ (pm ctv : Value) (us : List Value), us.length = 1 → bindArgs (PySem.W.kla_fn "<lambda>" q params body scope cl pm (.ref c') ctv) ⟨us, []⟩ = pure ([p].zip us))
    (hr : Room (k + 1) A) (hA : A.frames = some X.stack) (hf : H f = some (LamO f q params body scope cl c')) (hc : H c' = some (CodeO c' q)) (cp : Caps X cl fr js) (ca : Capt c js xs) (hn : 1 + xs.length ≤ N.length)
    (rx : Rep K F μ v x) (ru : RelV v u) (hg : lamG N.length de (x :: xs) c.S = .ok y S')
    (hbody : ∀ (A : Around) (outer : List Env) (s : Shared) (H : Hp) (E : XK), Room k (A.deeper (envF (lamNF q params scope cl c') f s.heap.objs.size)) → ∃ t, DD (ncx (L2N.CX X.prog X.w) X.prog X.w K X.mg X.base N (lamNF q params scope cl c') f A outer s H E) W0 body t de) :
    codeAny (model X.prog X.w) A (.call (.ref f) ⟨[u], []⟩) (fun r s' => ∃ uk, r = .ok (.ret uk) ∧ CE X.stack X.prog X.w H s (fun w H' => ∃ F' μ', Le F μ F' μ' ∧ Rel K Z F' μ' ⟨c.r, S'⟩ σ H' ∧ Rep K F' μ' w y) uk s') s := by
  subst hK
  have e0 := I.env0
  have e1 : Env0 X.prog X.w X.K X.mg X.base A X.stack s H := ⟨hA, e0.mod, e0.bs, e0.bsz, e0.funs, e0.frf, e0.hok, e0.bare⟩
  obtain ⟨ws, ew, rw_⟩ := capt_vals R ca
  have C := cells_of I cp
  rw [ew] at C
  refine codeAny_mono (lam_run (CX := L2N.CX X.prog X.w) (P := X.prog) (w := X.w) (K := X.K) (mg := X.mg) (base := X.base) (vs := [v]) (E := E00) (Q := fun w H' => ∃ F' μ', Le F μ F' μ' ∧ Rel X.K Z F' μ' ⟨c.r, S'⟩ σ H' ∧ Rep X.K F' μ' w y) (t := fun σ' H' Q' => ∃ t, DD (ncx (L2N.CX X.prog X.w) X.prog X.w X.K X.mg X.base N (lamNF q params scope cl c') f A X.stack s H E00) W0 body t de ∧ t σ' H' Q') S hb hr e1 hf hc C (.cons ru .nil) rfl fun hr' => ⟨?_, ?_⟩) fun r s' hr' => ?_
  · refine ⟨fun pins' s1 σ1 H1 Q1 J ht => ?_⟩
    obtain ⟨t, D, ht⟩ := ht
    exact D.pe.run pins' s1 σ1 H1 Q1 J ht
  · obtain ⟨t, D⟩ := hbody A X.stack s H E00 hr'
    refine ⟨t, D, ?_⟩
    have L := lend_of R
    have rs : Reps X.K F μ (v :: ws) (x :: xs) := .cons rx rw_
    have RL := rel_start (N := N) (k := 1 + xs.length) L rs (by rw [List.length_cons]; omega) hn
    rw [startF_some]
    refine D.ev _ F μ _ _ H _ RL ?_
    unfold lamG at hg
    rw [List.length_cons, Nat.add_comm xs.length 1] at hg
    generalize hde : de ⟨(x :: xs).map .d ++ List.replicate (N.length - (1 + xs.length)) .no, c.S⟩ = r at *
    cases r with
    | ok y1 c1 =>
      cases hg
      intro F' μ' H' le R' w r'
      exact ⟨F', μ', le, lend_back R le (rel_strip R'), r'⟩
    | ex e c1 => cases hg
    | no => cases hg
  · cases r with
    | error e => exact (cx_no hr').elim
    | ok fl =>
      cases fl with
      | ret uk => exact ⟨uk, rfl, hr'⟩
      | next => exact False.elim hr'
      | brk => exact False.elim hr'
      | cont => exact False.elim hr'
end
/-- the keys, one after another -/
def mapK (g : G) (ws : List D) : List D → List Cell → Option (List D × List Cell)
  | [], S => some ([], S)
  | d :: ds, S => match g (d :: ws) S with
    | .ok y S' => match mapK g ws ds S' with
      | some (ys, S2) => some (y :: ys, S2)
      | none => none
    | _ => none
/-- the better one of two: the new one only where its key is beyond the old one's -/
def stepK (mx : Bool) (b n : D × PyData) : Option (D × PyData) :=
  if PySem.W.alike n.2 b.2 = true ∧ someP n.2 = true ∧ n.2.depth ≤ 64 then some (if (if mx then PySem.W.dataLt b.2 n.2 else PySem.W.dataLt n.2 b.2) = true then n else b) else none
def bestK (mx : Bool) : D × PyData → List (D × D) → Option D
  | b, [] => some b.1
  | b, n :: r => match pyD n.2 with
    | some p => match stepK mx b (n.1, p) with
      | some b' => bestK mx b' r
      | none => none
    | none => none

omit [TabEnv] in
theorem pyNextK_item {P : Program} {w : World} {A : Around} {E : Value → Shared → Prop} {s : Shared} {kd : Bool} {it a : Addr} {i : Nat} {its : Array Value} {x : Value} {Q : Option Value → Shared → Prop} (hit : ItK kd s.heap it a i) (hl : IsK kd s.heap a its) (hx : its[i]? = some x)
    (hQ : ∀ g, ItK kd g it a (i + 1) → Heap.SameBut it s.heap g → Q (some x) { s with heap := g }) : wpAny (model P w) A (pyNext (.ref it)) Q E s := by
  cases kd with
  | true => exact wpAny_pyNext_tuple_item hit hl hx hQ
  | false => exact wpAny_pyNext_list_item hit hl hx hQ
omit [TabEnv] in
theorem pyNextK_end {P : Program} {w : World} {A : Around} {E : Value → Shared → Prop} {s : Shared} {kd : Bool} {it a : Addr} {i : Nat} {its : Array Value} {Q : Option Value → Shared → Prop} (hh : A.handled = none) (hit : ItK kd s.heap it a i) (hl : IsK kd s.heap a its) (hx : its[i]? = none)
    (hQ : ∀ g, Heap.ExtBut it s.heap g → Q none { s with heap := g }) : wpAny (model P w) A (pyNext (.ref it)) Q E s := by
  cases kd with
  | true => exact wpAny_pyNext_tuple_end hh hit hl hx hQ
  | false => exact wpAny_pyNext_list_end hh hit hl hx hQ
/-- what is known of a key's lambda within the frame that made it -/
structure KeySet (X : Cx) (K : PySem.W.Frag) (N fr : List Str) (p : Str) (js : List Nat) (k : Nat) (f c' : Addr) (q : Str) (params : Arguments) (body : Expr) (scope : Scope) (cl : List (Str × Addr)) (de : M D) : Prop where
  S : NScope N [p] fr scope
  hb : ∀ (pm ctv : Value) (us : List Value), us.length = 1 → bindArgs (PySem.W.kla_fn "<lambda>" q params body scope cl pm (.ref c') ctv) ⟨us, []⟩ = pure ([p].zip us)
  cp : Caps X cl fr js
  hbody : ∀ (A : Around) (outer : List Env) (s : Shared) (H : Hp) (E : XK), Room k (A.deeper (envF (lamNF q params scope cl c') f s.heap.objs.size)) → ∃ t, DD (ncx (L2N.CX X.prog X.w) X.prog X.w K X.mg X.base N (lamNF q params scope cl c') f A outer s H E) W0 body t de
section
variable {X : Cx} {pins : List (Addr × Obj)}

/-- a better one is sought: max, i of them seen -/
theorem max_loop {K : PySem.W.Frag} {Z : Hp} {A : Around} {N fr : List Str} {p : Str} {js : List Nat} {k : Nat} {kd : Bool} {f c' a it L : Addr} {q : Str} {params : Arguments} {body : Expr} {scope : Scope} {cl : List (Str × Addr)} {de : M D} {xs : List D} {r : List Slot} {σ : L2.St} {Rr : Result → Shared → Prop} {dres : D} {S2 : List Cell}
    (hK : X.K = K) (ks : KeySet X K N fr p js k f c' q params body scope cl de) (hh : A.handled = none) (hr : Room (k + 1) A.in1) (hu : A.in1.units + 64 < cLine) (hA : A.frames = some X.stack) (ca : ∀ S, Capt ⟨r, S⟩ js xs) (hn : 1 + xs.length ≤ N.length) (nL : it ≠ L) :
    ∀ (rest : List D) (i : Nat) (F : Hp) (μ : List Addr) (S : List Cell) (H : Hp) (s : Shared) (vs : List V) (ds ys : List D) (vb wb : V) (ub kb : Value) (db yb : D) (pb : PyData) (n : Nat),
      Inv X pins σ H s → Rel K Z F μ ⟨r, S⟩ σ H → SqK kd K F a vs → Reps K F μ vs ds → ds.drop i = rest → ItK kd s.heap it a i → FpOk X pins H it → FpOk X pins H L → s.heap.get? L = some (seqObj "list" #[ub, kb] n) →
      RelV vb ub → Rep K F μ vb db → RelV wb kb → Rep K F μ wb yb → pyD yb = some pb → H f = some (LamO f q params body scope cl c') → H c' = some (CodeO c' q) → F f = some (LamO f q params body scope cl c') → F c' = some (CodeO c' q) →
      mapK (lamG N.length de) xs rest S = some (ys, S2) → bestK true (db, pb) (rest.zip ys) = some dres →
      (∀ (F' : Hp) (μ' : List Addr) (H' : Hp) (s' : Shared) (v : V) (u : Value), Le F μ F' μ' → Inv X pins σ H' s' → Rel K Z F' μ' ⟨r, S2⟩ σ H' → RelV v u → Rep K F' μ' v dres → Rr (.ok (.ret u)) s') →
      codeAny (model X.prog X.w) A (.builtin "max.loop" ⟨[.ref it, .ref f, .ref L], []⟩) Rr s
  | [], i, F, μ, S, H, s, vs, ds, ys, vb, wb, ub, kb, db, yb, pb, n, I, R, hq, hd, hdr, hit, fi, fL, hL, rb, pr, rk, pk, ep, hf, hc, Ff, Fc, em, eb, fin => by
    subst hK
    cases em
    cases eb
    have hnm : (toString "max" ++ toString ".loop" : String) = "max.loop" := by decide
    obtain ⟨its, rv, pl, _⟩ := Inv.seqK I (SqK.same R.ex hq)
    have hle : ds.length ≤ i := by
      have e := congrArg List.length hdr
      rw [List.length_drop] at e
      simp at e
      omega
    have hnone : its.toArray[i]? = none := by
      have h1 := rv.length
      have h2 := hd.length
      simp
      omega
    refine codeAny_builtin PySem.F.entry_max_loop ?_
    rw [Around.under_plainId PySem.F.plain_max_loop _]
    show wpAny _ A.in1 (seqItems? (.ref L) >>= _) _ _ _
    refine wpAny_bind (wpAny_seqItems hL rfl ?_)
    show wpAny _ A.in1 (tryCatch (pyNext (.ref it)) _ >>= _) _ _ _
    refine wpAny_bind (wpAny_tryCatch (pyNextK_end (show A.in1.handled = none from hh) hit pl hnone fun h1 grow => ?_))
    have I1 : Inv X pins σ H { s with heap := h1 } := I.turnedL (t' := s.toks) (ch := [it]) (fun b o hb e => grow b o (fun z => hb (by simp [z])) e) (fun b hb => by rw [List.mem_singleton.mp hb]; exact fi)
    have hL1 := grow L _ (Ne.symm nL) hL
    show wpAny _ A.in1 (updateSeq L (fun _ => #[]) >>= _) _ _ _
    refine wpAny_bind (wpAny_updateSeq hL1 rfl (wpAny_bind (wpAny_letGo (wpAny_pure ?_))))
    have sb := Heap.SameBut.update h1 L (Obj.mapSeq fun _ => (#[] : Array Value))
    have I2 := I1.turnedL (t' := s.toks) (ch := [L]) (h' := h1.update L (Obj.mapSeq fun _ => (#[] : Array Value))) (fun b o hb e => sb.extBut b o (fun z => hb (by simp [z])) e) (fun b hb => by rw [List.mem_singleton.mp hb]; exact fL)
    exact fin F μ H _ vb ub (Le.refl F μ) I2 R rb pr
  | d :: rest, i, F, μ, S, H, s, vs, ds, ys, vb, wb, ub, kb, db, yb, pb, n, I, R, hq, hd, hdr, hit, fi, fL, hL, rb, pr, rk, pk, ep, hf, hc, Ff, Fc, em, eb, fin => by
    subst hK
    have hnm : (toString "max" ++ toString ".loop" : String) = "max.loop" := by decide
    have hdi : ds[i]? = some d := by
      have e : (ds.drop i)[0]? = (d :: rest)[0]? := by rw [hdr]
      rw [List.getElem?_drop] at e
      exact e
    have hdr' : ds.drop (i + 1) = rest := by
      have e := congrArg (List.drop 1) hdr
      rw [List.drop_drop] at e
      first
        | exact e
        | (rw [Nat.add_comm] at e; exact e)
    obtain ⟨its, rv, pl, _⟩ := Inv.seqK I (SqK.same R.ex hq)
    obtain ⟨v, hv, rd⟩ := hd.get hdi
    obtain ⟨u, hu2, ru⟩ := rv.get hv
    unfold mapK at em
    generalize hg : lamG N.length de (d :: xs) S = g at em
    cases g with
    | ex e S' => cases em
    | no => cases em
    | ok y S' =>
    dsimp only at em
    generalize hm : mapK (lamG N.length de) xs rest S' = m at em
    cases m with
    | none => cases em
    | some m =>
    obtain ⟨ys', S3⟩ := m
    cases em
    rw [List.zip_cons_cons] at eb
    unfold bestK at eb
    generalize hp : pyD (d, y).2 = pp at eb
    cases pp with
    | none => cases eb
    | some py =>
    dsimp only at eb hp
    generalize hst : stepK true (db, pb) (d, py) = st at eb
    cases st with
    | none => cases eb
    | some b' =>
    dsimp only at eb
    unfold stepK at hst
    split at hst
    · next hal =>
      obtain ⟨al, sm, dp⟩ := hal
      have hst := Option.some.inj hst
      refine codeAny_builtin PySem.F.entry_max_loop ?_
      rw [Around.under_plainId PySem.F.plain_max_loop _]
      show wpAny _ A.in1 (seqItems? (.ref L) >>= _) _ _ _
      refine wpAny_bind (wpAny_seqItems hL rfl ?_)
      show wpAny _ A.in1 (tryCatch (pyNext (.ref it)) _ >>= _) _ _ _
      refine wpAny_bind (wpAny_tryCatch (pyNextK_item hit pl (x := u) (by simpa using hu2) fun h1 hit1 sb1 => ?_))
      have I1 : Inv X pins σ H { s with heap := h1 } := I.turnedL (t' := s.toks) (ch := [it]) (fun b o hb e => sb1.extBut b o (fun z => hb (by simp [z])) e) (fun b hb => by rw [List.mem_singleton.mp hb]; exact fi)
      have hL1 := sb1.extBut L _ (Ne.symm nL) hL
      show wpAny _ A.in1 (tryCatch (holding [u] (call (.ref f) [u])) _ >>= _) _ _ _
      refine wpAny_bind (wpAny_tryCatch (wpAny_holding (wpAny_call (codeAny_mono (key_call (A := A.in1) rfl I1 R ks.S ks.hb hr hA hf hc ks.cp (ca S) hn rd ru hg ks.hbody) fun rr s2 hrr => ?_))))
      obtain ⟨uk, rfl, wk, H', os, bare, un, hok, rwk, F', μ', le, R', ry⟩ := hrr
      dsimp only
      have I2 : Inv X pins σ H' s2 := I1.call' os un hok bare (fun b z => absurd z List.not_mem_nil)
      have kp : ∀ {b : Addr} {o : Obj}, FpOk X pins H b → h1.get? b = some o → s2.heap.get? b = some o ∧ FpOk X pins H' b := fun {b o} fb e => by
        refine ⟨un.keep b o e fb.1 (fun z => (List.mem_cons.mp (I1.stkSub b z)).elim fb.2.1 fb.2.2.1) List.not_mem_nil, un.free b o e fb.1 List.not_mem_nil, fb.2⟩
      obtain ⟨oi, hoi, _⟩ := hit1.get
      obtain ⟨hoi2, fi2⟩ := kp fi hoi
      have hit2 : ItK kd s2.heap it a (i + 1) := hit1.keep fun o q => by
        rw [hoi] at q
        cases q
        exact hoi2
      obtain ⟨hL2, fL2⟩ := kp fL hL1
      have D1 := dp_of (K := X.K) R'.ex ry hp
      have D2 := dp_of (K := X.K) R'.ex (pk.mono le) ep
      obtain ⟨as1, rd1⟩ := Dp.reads I2 py wk uk D1 rwk
      obtain ⟨as2, rd2⟩ := Dp.reads I2 pb wb kb D2 rk
      show wpAny _ A.in1 (tryCatch (holding [u, uk] (richCompare .Gt uk kb >>= _)) _ >>= _) _ _ _
      have hmin : A.in1.units + min py.depth pb.depth < cLine := by
        have := Nat.min_le_left py.depth pb.depth
        have dp : py.depth ≤ 64 := dp
        omega
      have hne : py ≠ .none := fun z => by rw [z] at sm; cases sm
      refine wpAny_bind (wpAny_tryCatch (wpAny_holding (wpAny_bind (show wpAny _ A.in1 (compareOp .Gt uk kb) _ _ _ from PySem.W.gt_data rd1 rd2 al hne hmin ?_))))
      refine wpAny_bind (wpAny_holding (wpAny_truthy_bool ?_))
      refine wpAny_bind (wpAny_letGo (wpAny_pure ?_))
      have eOr : (if true = true then PySem.W.dataLt pb py else PySem.W.dataLt py pb) = PySem.W.dataLt pb py := rfl
      have hst : (if PySem.W.dataLt pb py = true then (d, py) else (db, pb)) = b' := hst
      cases hcmp : PySem.W.dataLt pb py with
      | true =>
        rw [hcmp] at hst
        simp only [if_true] at hst
        subst hst
        simp only [if_true]
        refine wpAny_bind ?_
        refine wpAny_updateSeq hL2 rfl (wpAny_bind (wpAny_letGo ?_))
        rw [hnm]
        have sb := Heap.SameBut.update s2.heap L (Obj.mapSeq fun _ => #[u, uk])
        obtain ⟨n3, hL3⟩ : ∃ n3, (s2.heap.update L (Obj.mapSeq fun _ => #[u, uk])).get? L = some (seqObj "list" #[u, uk] n3) := ⟨_, get?_update_seq hL2 fun _ => #[u, uk]⟩
        have I3 := I2.turnedL (t' := s2.toks) (ch := [L]) (h' := s2.heap.update L (Obj.mapSeq fun _ => #[u, uk])) (fun b o hb e => sb.extBut b o (fun z => hb (by simp [z])) e) (fun b hb => by rw [List.mem_singleton.mp hb]; exact fL2)
        have hit3 : ItK kd (s2.heap.update L (Obj.mapSeq fun _ => #[u, uk])) it a (i + 1) := hit2.keep fun o q => sb.extBut it o nL q
        exact wpAny_pure ⟨plainId_quiet PySem.F.plain_max_loop _, max_loop rfl ks hh hr hu hA ca hn nL rest (i + 1) F' μ' S' H' _ vs ds ys' v wk u uk d y py n3 I3 R' (SqK.same le.ex hq) (hd.mono le) hdr' hit3 fi2 fL2 hL3 ru (rd.mono le) rwk ry hp (R'.ex _ _ (le.ex _ _ Ff)) (R'.ex _ _ (le.ex _ _ Fc)) (le.ex _ _ Ff) (le.ex _ _ Fc) hm eb fun F2 μ2 H2 s3 v3 u3 l2 => fin F2 μ2 H2 s3 v3 u3 (le.trans l2)⟩
      | false =>
        rw [hcmp] at hst
        simp only [Bool.false_eq_true, if_false] at hst
        subst hst
        simp only [Bool.false_eq_true, if_false]
        refine wpAny_bind (wpAny_letGo ?_)
        rw [hnm]
        exact wpAny_pure ⟨plainId_quiet PySem.F.plain_max_loop _, max_loop rfl ks hh hr hu hA ca hn nL rest (i + 1) F' μ' S' H' _ vs ds ys' vb wb ub kb db yb pb n I2 R' (SqK.same le.ex hq) (hd.mono le) hdr' hit2 fi2 fL2 hL2 rb (pr.mono le) rk (pk.mono le) ep (R'.ex _ _ (le.ex _ _ Ff)) (R'.ex _ _ (le.ex _ _ Fc)) (le.ex _ _ Ff) (le.ex _ _ Fc) hm eb fun F2 μ2 H2 s3 v3 u3 l2 => fin F2 μ2 H2 s3 v3 u3 (le.trans l2)⟩
    · cases hst

/-- max(seq, key=f): from the start -/
theorem max_run {K : PySem.W.Frag} {Z : Hp} {N fr : List Str} {p : Str} {js : List Nat} {k : Nat} {kd : Bool} {f c' a : Addr} {q : Str} {params : Arguments} {body : Expr} {scope : Scope} {cl : List (Str × Addr)} {de : M D} {xs : List D} {r : List Slot} {σ : L2.St} {E : Value → Shared → Prop} {Qv : Value → Shared → Prop} {dres : D} {S2 : List Cell}
    {F : Hp} {μ : List Addr} {S S1 : List Cell} {H : Hp} {s : Shared} {vs : List V} {d : D} {ds ys : List D} {y : D} {py : PyData}
    (hK : X.K = K) (ks : KeySet X K N fr p js k f c' q params body scope cl de) (hr : Room (k + 2) X.A) (ca : ∀ S, Capt ⟨r, S⟩ js xs) (hn : 1 + xs.length ≤ N.length)
    (I : Inv X pins σ H s) (R : Rel K Z F μ ⟨r, S⟩ σ H) (hq : SqK kd K F a vs) (hd : Reps K F μ vs (d :: ds)) (Ff : F f = some (LamO f q params body scope cl c')) (Fc : F c' = some (CodeO c' q))
    (hg : lamG N.length de (d :: xs) S = .ok y S1) (hp : pyD y = some py) (em : mapK (lamG N.length de) xs ds S1 = some (ys, S2)) (eb : bestK true (d, py) (ds.zip ys) = some dres)
    (fin : ∀ (F' : Hp) (μ' : List Addr) (H' : Hp) (s' : Shared) (v : V) (u : Value), Le F μ F' μ' → Inv X pins σ H' s' → Rel K Z F' μ' ⟨r, S2⟩ σ H' → RelV v u → Rep K F' μ' v dres → Qv u s') :
    wpAny (model X.prog X.w) X.A (call (.builtin "max") [.ref a] [(Str.ofString "key", .ref f)]) Qv E s := by
  subst hK
  have hnm : (toString "max" ++ toString ".loop" : String) = "max.loop" := by decide
  have hA : X.A.frames = some X.stack := I.ok.frames
  have hr1 : Room (k + 1) X.A.in1 := hr.in1
  have hu : X.A.in1.units + 64 < cLine := hr1.units
  have hh : X.A.handled = none := hr.hd
  have hf : H f = some (LamO f q params body scope cl c') := R.ex _ _ Ff
  have hc : H c' = some (CodeO c' q) := R.ex _ _ Fc
  obtain ⟨its0, rv0, pl0, lt0⟩ := Inv.seqK I (SqK.same R.ex hq)
  refine PyProof.Rows.kmk_tree PySem.F.kind_max PySem.F.plain_max PySem.F.entry_max (PyProof.Rows.kmk_max_key _ _) ?_
  show wpAny _ X.A.in1 (Builtin.Builtins.bindParams "max" ["key", "default"] 0 ⟨[], [(Str.ofString "key", .ref f)]⟩ >>= _) _ _ s
  refine wpAny_bind (wpAny_of_eq (show Builtin.Builtins.bindParams "max" ["key", "default"] 0 ⟨[], [(Str.ofString "key", .ref f)]⟩ = pure [some (.ref f), none] from rfl) ?_)
  refine wpAny_bind (wpAny_pure ?_)
  refine wpAny_bind ((begins_k kd a its0.toArray).iter _ _ _ _ _ _ pl0 ?_)
  refine wpAny_bind (wpAny_newList ?_ (Nat.zero_le _))
  rw [hnm]
  generalize hh1 : s.heap.push (iterObj kd a) = h1
  have k1 : ∀ b o, s.heap.get? b = some o → h1.get? b = some o := fun b o z => by rw [← hh1]; exact Heap.get?_push_of_some _ z
  have s1 : h1.objs.size = s.heap.objs.size + 1 := by rw [← hh1]; exact Heap.size_push ..
  have gi : h1.get? s.heap.objs.size = some (iterObj kd a) := by
    rw [← hh1]
    exact Heap.get?_push_size _ (begins_k kd a its0.toArray).free
  generalize hh2 : h1.push { cls := .type "list", data := .seq (([] : List Value).toArray) } = h2
  have k2 : ∀ b o, h1.get? b = some o → h2.get? b = some o := fun b o z => by rw [← hh2]; exact Heap.get?_push_of_some _ z
  have gL : h2.get? h1.objs.size = some (seqObj "list" #[] 0) := by rw [← hh2]; exact Heap.get?_push_size _ rfl
  have hit : ItK kd h2 s.heap.objs.size a 0 := (ItK.new gi).keep fun o z => k2 _ _ z
  have I0 : Inv X pins σ H { s with heap := h2 } := I.kept fun b o z => k2 _ _ (k1 _ _ z)
  have n1 : H s.heap.objs.size = none := I.hok.fresh (Nat.le_refl _)
  have n2 : H h1.objs.size = none := I.hok.fresh (by omega)
  have fi : FpOk X pins H s.heap.objs.size := I.fpOk (Nat.le_refl _) n1
  have fL : FpOk X pins H h1.objs.size := I.fpOk (by omega) n2
  have nL : s.heap.objs.size ≠ h1.objs.size := by omega
  generalize s.heap.objs.size = it at *
  generalize h1.objs.size = L at *
  refine wpAny_pure ⟨plainId_quiet PySem.F.plain_max_loop _, ?_⟩
  obtain ⟨its, rv, pl, _⟩ := Inv.seqK I0 (SqK.same R.ex hq)
  obtain ⟨v, hv, rd⟩ := hd.get (i := 0) rfl
  obtain ⟨u, hu2, ru⟩ := rv.get hv
  refine codeAny_builtin PySem.F.entry_max_loop ?_
  rw [Around.under_plainId PySem.F.plain_max_loop _]
  show wpAny _ X.A.in1 (seqItems? (.ref L) >>= _) _ _ _
  refine wpAny_bind (wpAny_seqItems gL rfl ?_)
  show wpAny _ X.A.in1 (tryCatch (pyNext (.ref it)) _ >>= _) _ _ _
  refine wpAny_bind (wpAny_tryCatch (pyNextK_item hit pl (x := u) (by simpa using hu2) fun g hit1 sb1 => ?_))
  have I1 : Inv X pins σ H { s with heap := g } := Inv.turnedL (s := { s with heap := h2 }) (t' := s.toks) (ch := [it]) I0 (fun b o hb e => sb1.extBut b o (fun z => hb (by simp [z])) e) (fun b hb => by rw [List.mem_singleton.mp hb]; exact fi)
  have hL1 := sb1.extBut L _ (Ne.symm nL) gL
  show wpAny _ X.A.in1 (tryCatch (holding [u] (call (.ref f) [u])) _ >>= _) _ _ _
  refine wpAny_bind (wpAny_tryCatch (wpAny_holding (wpAny_call (codeAny_mono (key_call (A := X.A.in1) rfl I1 R ks.S ks.hb hr1 hA hf hc ks.cp (ca S) hn rd ru hg ks.hbody) fun rr s2 hrr => ?_))))
  obtain ⟨uk, rfl, wk, H', os, bare, un, hok, rwk, F', μ', le, R', ry⟩ := hrr
  dsimp only
  have I2 : Inv X pins σ H' s2 := I1.call' os un hok bare (fun b z => absurd z List.not_mem_nil)
  have kp : ∀ {b : Addr} {o : Obj}, FpOk X pins H b → g.get? b = some o → s2.heap.get? b = some o ∧ FpOk X pins H' b := fun {b o} fb e => by
    refine ⟨un.keep b o e fb.1 (fun z => (List.mem_cons.mp (I1.stkSub b z)).elim fb.2.1 fb.2.2.1) List.not_mem_nil, un.free b o e fb.1 List.not_mem_nil, fb.2⟩
  obtain ⟨oi, hoi, _⟩ := hit1.get
  obtain ⟨hoi2, fi2⟩ := kp fi hoi
  have hit2 : ItK kd s2.heap it a (0 + 1) := hit1.keep fun o q => by
    rw [hoi] at q
    cases q
    exact hoi2
  obtain ⟨hL2, fL2⟩ := kp fL hL1
  show wpAny _ X.A.in1 (updateSeq L (fun _ => #[u, uk]) >>= _) _ _ _
  refine wpAny_bind ?_
  refine wpAny_updateSeq hL2 rfl ?_
  rw [hnm]
  have sb := Heap.SameBut.update s2.heap L (Obj.mapSeq fun _ => #[u, uk])
  obtain ⟨n3, hL3⟩ : ∃ n3, (s2.heap.update L (Obj.mapSeq fun _ => #[u, uk])).get? L = some (seqObj "list" #[u, uk] n3) := ⟨_, get?_update_seq hL2 fun _ => #[u, uk]⟩
  have I3 := I2.turnedL (t' := s2.toks) (ch := [L]) (h' := s2.heap.update L (Obj.mapSeq fun _ => #[u, uk])) (fun b o hb e => sb.extBut b o (fun z => hb (by simp [z])) e) (fun b hb => by rw [List.mem_singleton.mp hb]; exact fL2)
  have hit3 : ItK kd (s2.heap.update L (Obj.mapSeq fun _ => #[u, uk])) it a (0 + 1) := hit2.keep fun o q => sb.extBut it o nL q
  exact wpAny_pure ⟨plainId_quiet PySem.F.plain_max_loop _, max_loop rfl ks hh hr1 hu hA ca hn nL ds (0 + 1) F' μ' S1 H' _ vs (d :: ds) ys v wk u uk d y py n3 I3 R' (SqK.same le.ex hq) (hd.mono le) rfl hit3 fi2 fL2 hL3 ru (rd.mono le) rwk ry hp (R'.ex _ _ (le.ex _ _ Ff)) (R'.ex _ _ (le.ex _ _ Fc)) (le.ex _ _ Ff) (le.ex _ _ Fc) em eb fun F2 μ2 H2 s3 v3 u3 l2 => fin F2 μ2 H2 s3 v3 u3 (le.trans l2)⟩

end
end My

set_option Elab.async false
set_option linter.all false
set_option maxRecDepth 100000
set_option maxHeartbeats 4000000
/-! F43: max and min with a lambda as key: the expression's rule. -/
namespace My
open PySem PySem.Spec L2 LamX NdefX PyProof.Rows
variable [TabEnv]
/-- what is known of a state and its image -/
def tSem (K : PySem.W.Frag) (W : WX) (d : M D) : TE := fun σ H Q => ∃ Z F μ c, Rel K Z F μ c σ H ∧ Post K Z F μ σ W (d c) (fun x _ F' μ' H' => ∀ v, Rep K F' μ' v x → Q v H')
theorem sem_ev {K : PySem.W.Frag} {W : WX} {d : M D} : EvD K W (tSem K W d) d := fun Z F μ c σ H Q R p => ⟨Z, F, μ, c, R, p⟩
section
variable {K : PySem.W.Frag} {Z F : Hp} {μ : List Addr} {c : Stt} {σ : L2.St} {H H1 : Hp} {P f c' : Addr} {q : Str} {φ : Heap → Prop}
/-- a table grows, a function and its code object are new: they stand for good -/
theorem Rel.tabbed (R : Rel K Z F μ c σ H) (mem : (P, q) ∈ TabEnv.T) (one : ∀ p ∈ TabEnv.T, p.1 = P → p.2 = q) {ps0 ps1 : Array Value} (tb0 : H P = some (.tbl ps0)) (tb1 : H1 P = some (.tbl ps1)) (keep : ∀ b o, b ≠ P → H b = some o → H1 b = some o) (trip : TriplesOk ps1.toList)
    (more : ∀ (pos : Pos) (cv : Value), codeAmong pos ps1.toList = some cv → codeAmong pos ps0.toList = some cv ∨ cv = .ref c') (nf : H f = none) (hc : H c' = none ∨ ∃ pos, codeAmong pos ps0.toList = some (.ref c')) (ne : f ≠ c') (hf : H1 f = some (.ext φ)) (hc1 : H1 c' = some (CodeO c' q)) :
    ∃ F', Le F μ F' μ ∧ Rel K Z F' μ c σ H1 ∧ F' f = some (.ext φ) ∧ F' c' = some (CodeO c' q) := by
  obtain ⟨fP, zP, ps, e0, trip0, know⟩ := R.tab _ mem
  have fP : F P = none := fP
  have zP : Z P = none := zP
  have e0 : H P = some (.tbl ps) := e0
  rw [tb0] at e0
  cases e0
  have Ff : F f = none := R.freeF nf
  have Zf : Z f = none := R.freeZ nf
  have fnP : f ≠ P := fun z => by rw [z, tb0] at nf; cases nf
  have cnP : c' ≠ P := fun z => by rw [z, tb1] at hc1; unfold CodeO at hc1; cases hc1
  -- no live thing stands at the table
  have liveP : ∀ (a : Addr) (m : Cell), CellAt K Z F μ H a m → m.live ∨ m.lk → a ≠ P := fun a m c1 g z => by
    subst z
    obtain ⟨o, e, co⟩ := c1.o
    rw [tb0] at e
    cases e
    rcases g with g | g
    · exact (co.noTab g).1 ps0 rfl
    · have := c1.l g
      rw [fP, tb0] at this
      cases this
  have cat : ∀ {F' : Hp}, Le F μ F' μ → (∀ b, F' b ≠ none → F b = none → b = f ∨ b = c') → (c' = c' → F c' = some (CodeO c' q) ∨ H c' = none) → ∀ (a : Addr) (m : Cell), CellAt K Z F μ H a m → CellAt K Z F' μ H1 a m := fun {F'} le new cc a m c1 => by
    have hx : ∃ o, H a = some o := let ⟨o, e, _⟩ := c1.o; ⟨o, e⟩
    obtain ⟨o, e, co⟩ := c1.o
    refine ⟨c1.z, fun g => ?_, ?_, fun g => ?_⟩
    · cases z : F' a with
      | none => rfl
      | some u =>
        exfalso
        rcases new a (by rw [z]; intro w; cases w) (c1.f g) with h | h
        · rw [h, nf] at e; cases e
        · rcases cc rfl with h2 | h2
          · rw [h] at c1
            have := c1.f g
            rw [h2] at this
            cases this
          · rw [h, h2] at e; cases e
    · by_cases h : a = P
      · refine ⟨.tbl ps1, by rw [h]; exact tb1, ?_⟩
        cases m with
        | gone => exact .gone
        | lck _ => exact absurd h (liveP a _ c1 (.inr trivial))
        | lst _ => exact absurd h (liveP a _ c1 (.inl trivial))
        | dct _ => exact absurd h (liveP a _ c1 (.inl trivial))
        | ins _ _ => exact absurd h (liveP a _ c1 (.inl trivial))
        | nd _ _ => exact absurd h (liveP a _ c1 (.inl trivial))
        | hid _ => exact absurd h (liveP a _ c1 (.inl trivial))
      · exact ⟨o, keep a o h e, co.mono le⟩
    · have h := liveP a m c1 (.inr g)
      have l := c1.l g
      rw [e] at l
      rw [le.ex _ _ l, keep a o h e]
  -- the code object
  have codes : F c' = some (CodeO c' q) ∨ (H c' = none ∧ F c' = none) := by
    rcases hc with h | ⟨pos, h⟩
    · exact .inr ⟨h, R.freeF h⟩
    · obtain ⟨c2, e2, r⟩ := know pos _ h
      cases e2
      exact .inl r
  obtain ⟨F1, hF1, F1c, F1n⟩ : ∃ F1 : Hp, Same F F1 ∧ F1 c' = some (CodeO c' q) ∧ ∀ b, b ≠ c' → F1 b = F b := by
    rcases codes with h | ⟨_, h⟩
    · exact ⟨F, Same.refl F, h, fun _ _ => rfl⟩
    · exact ⟨upd F c' (CodeO c' q), same_new h, upd_same, fun b hb => upd_ne hb⟩
  have F1f : F1 f = none := by rw [F1n f ne]; exact Ff
  obtain ⟨F', hF'⟩ : ∃ F' : Hp, F' = upd F1 f (.ext φ) := ⟨_, rfl⟩
  have le : Le F μ F' μ := ⟨fun b o e => by
    rw [hF', upd_ne (fun z => by subst z; rw [Ff] at e; cases e)]
    exact hF1 b o e, fun _ _ h => h⟩
  have new : ∀ b, F' b ≠ none → F b = none → b = f ∨ b = c' := fun b h1 h2 => by
    by_cases hb : b = f
    · exact .inl hb
    · by_cases hb2 : b = c'
      · exact .inr hb2
      · rw [hF', upd_ne hb, F1n b hb2] at h1
        exact absurd h2 h1
  have cc : c' = c' → F c' = some (CodeO c' q) ∨ H c' = none := fun _ => codes.imp id fun h => h.1
  have K1 := cat le new cc
  have Zc : Z c' = none := by
    rcases codes with h | ⟨h, _⟩
    · cases z : Z c' with
      | none => rfl
      | some o =>
        have := R.fz _ _ z
        rw [h] at this
        cases this
    · exact R.freeZ h
  refine ⟨F', le, { ex := fun b o e => ?_, exz := fun b o e => ?_, fz := fun b o e => ?_, len := R.len, slot := fun i x e => (let ⟨v, e1, e2⟩ := R.slot i x e; ⟨v, e1, e2.mono le⟩), own := fun i m q1 => (let ⟨a, e1, c1, g1⟩ := R.own i m q1; ⟨a, e1, K1 a m c1, g1⟩), dis := R.dis, lm := R.lm, sto := fun n a m e1 e2 => K1 a m (R.sto n a m e1 e2), dst := R.dst, ndm := R.ndm, tab := fun p hp => ?_ }, by rw [hF']; exact upd_same, by rw [hF', upd_ne (Ne.symm ne)]; exact F1c⟩
  · by_cases hb : b = f
    · subst hb
      rw [hF', upd_same] at e
      rw [hf]
      exact e
    · by_cases hb2 : b = c'
      · subst hb2
        rw [hF', upd_ne hb, F1c] at e
        rw [hc1]
        exact e
      · rw [hF', upd_ne hb, F1n b hb2] at e
        exact keep b o (fun z => by rw [z, fP] at e; cases e) (R.ex b o e)
  · exact keep b o (fun z => by rw [z, zP] at e; cases e) (R.exz b o e)
  · have n1 : b ≠ f := fun z => by rw [z, Zf] at e; cases e
    have n2 : b ≠ c' := fun z => by rw [z, Zc] at e; cases e
    rw [hF', upd_ne n1, F1n b n2]
    exact R.fz b o e
  · obtain ⟨h1, h2, ps, h3, h4, h5⟩ := R.tab p hp
    have up : ∀ b o, F b = some o → F' b = some o := fun b o e => le.ex b o e
    have nf1 : p.1 ≠ f := fun z => by rw [z, nf] at h3; cases h3
    have nc1 : p.1 ≠ c' := fun z => by
      rcases codes with h | ⟨h, _⟩
      · rw [z, h] at h1; cases h1
      · rw [z, h] at h3; cases h3
    refine ⟨by rw [hF', upd_ne nf1, F1n _ nc1]; exact h1, h2, ?_⟩
    by_cases hp1 : p.1 = P
    · have hq : p.2 = q := one p hp hp1
      refine ⟨ps1, by rw [hp1]; exact tb1, trip, fun pos cv z => ?_⟩
      rcases more pos cv z with y | y
      · obtain ⟨c2, e2, r⟩ := know pos cv y
        exact ⟨c2, e2, by rw [hq]; exact up _ _ r⟩
      · exact ⟨c', y, by rw [hq, hF', upd_ne (Ne.symm ne)]; exact F1c⟩
    · exact ⟨ps, keep _ _ hp1 h3, h4, fun pos cv z => (let ⟨c2, e2, r⟩ := h5 pos cv z; ⟨c2, e2, up _ _ r⟩)⟩
end
/-! ### a lambda as an expression -/
section
variable {X : Cx} {W : WX} {params : Arguments} {body : Expr} {scope : Scope} {lpos : Pos} {c P : Addr}
theorem pe_lam {K : PySem.W.Frag} (hK : X.K = K) (TB : TabB X.base X.mg c P) (hcode : X.env.code = .ref c) (mem : (P, X.env.qual ++ "<lambda>") ∈ TabEnv.T) (one : ∀ p ∈ TabEnv.T, p.1 = P → p.2 = X.env.qual ++ "<lambda>") (hdef : defaultsOf params X.env = ([], []))
    (hfree : ∀ y ∈ scope.names, y.2 = .free → X.env.scope.names.lookup y.1 = some .cell ∨ X.env.scope.names.lookup y.1 = some .free) :
    PE X (.Lambda params body scope lpos) (fun σ H Q => ∃ Z F μ c0, Rel K Z F μ c0 σ H ∧ ∀ f c' F' H1, Le F μ F' μ → Rel K Z F' μ c0 σ H1 → F' f = some (LamO f (X.env.qual ++ "<lambda>") params body scope (cloFrom X.env.cells scope.names []) c') → F' c' = some (CodeO c' (X.env.qual ++ "<lambda>")) → Q (.ref f) H1) := by
  subst hK
  refine ⟨fun pins s σ H Q I h => ?_⟩
  obtain ⟨Z, F, μ, c0, R, k⟩ := h
  obtain ⟨_, _, ps0, tb0, trip, know⟩ := R.tab _ mem
  have fr : ∀ y ∈ scope.names, y.2 = .free → ∃ a, X.env.cells.lookup y.1 = some a := fun y hy e => (hfree y hy e).elim (fun z => I.ok.has _ (.inl z)) fun z => I.ok.has _ (.inr z)
  refine lam_new I TB hcode tb0 trip (fun pos cv z => (let ⟨c2, e2, r⟩ := know pos cv z; ⟨c2, e2, R.ex _ _ r⟩)) hdef fr fun f c' H1 s' ps1 J keep tb1 trip1 more nf hc ne hf hc1 => ?_
  obtain ⟨F', le, R', f1, f2⟩ := R.tabbed mem one tb0 tb1 keep trip1 more nf hc ne hf hc1
  exact ⟨.ref f, H1, J, rfl, k f c' F' H1 le R' f1 f2⟩
end
/-! ### max and min with a key -/
def captD (c : Stt) : List Nat → Option (List D)
  | [] => some []
  | j :: js => match c.r[j]?, captD c js with
    | some (.d x), some xs => some (x :: xs)
    | _, _ => none
omit [TabEnv] in
theorem captD_ok {c : Stt} : ∀ {js : List Nat} {xs : List D}, captD c js = some xs → Capt c js xs
  | [], xs, e => by
    unfold captD at e
    cases e
    rfl
  | j :: js, xs, e => by
    unfold captD at e
    split at e
    · next x ys h1 h2 =>
      cases e
      have := captD_ok h2
      unfold Capt at this ⊢
      rw [List.map_cons, List.map_cons, this, h1]
    · cases e
omit [TabEnv] in
theorem captD_r {r : List Slot} {S S' : List Cell} : ∀ js, captD ⟨r, S⟩ js = captD ⟨r, S'⟩ js
  | [] => rfl
  | j :: js => by
    unfold captD
    rw [captD_r js]
def seqF : D → Option (Bool × List D)
  | .lst ds => some (false, ds)
  | .tup ds => some (true, ds)
  | _ => none
def keyRun (mx : Bool) (n : Nat) (js : List Nat) (de : M D) (x : D) : M D := fun c => match seqF x with
  | some (_, d :: r) => match captD c js with
    | some xs => if 1 + xs.length ≤ n then match lamG n de (d :: xs) c.S with
      | .ok y S1 => match pyD y with
        | some py => match mapK (lamG n de) xs r S1 with
          | some (ys, S2) => match bestK mx (d, py) (r.zip ys) with
            | some res => .ok res ⟨c.r, S2⟩
            | none => .no
          | none => .no
        | none => .no
      | _ => .no
      else .no
    | none => .no
  | _ => .no
def dKeyB (mx : Bool) (n : Nat) (js : List Nat) (de : M D) (da : M (List D)) : M D := M.bind da fun ds => match ds with
  | [x] => keyRun mx n js de x
  | _ => M.no
section
variable {X : Cx} {W : WX} {params : Arguments} {body it : Expr} {scope : Scope} {lpos p0 pos kpos : Pos} {c P : Addr} {ta : TA} {da : M (List D)} {N fr : List Str} {p : Str} {js : List Nat} {k : Nat} {de : M D}
/-- what a key's lambda has to be -/
structure LamKey (X : Cx) (K : PySem.W.Frag) (N fr : List Str) (p : Str) (js : List Nat) (k : Nat) (c P : Addr) (params : Arguments) (body : Expr) (scope : Scope) (de : M D) : Prop where
  TB : TabB X.base X.mg c P
  hcode : X.env.code = .ref c
  mem : (P, X.env.qual ++ "<lambda>") ∈ TabEnv.T
  one : ∀ p ∈ TabEnv.T, p.1 = P → p.2 = X.env.qual ++ "<lambda>"
  hdef : defaultsOf params X.env = ([], [])
  hfree : ∀ y ∈ scope.names, y.2 = .free → X.env.scope.names.lookup y.1 = some .cell ∨ X.env.scope.names.lookup y.1 = some .free
  hfr : ∀ y ∈ fr, (y, NameKind.free) ∈ scope.names
  hjs : js.map (fun j => X.N[j]?) = fr.map some
  S : NScope N [p] fr scope
  hb : ∀ (c' : Addr) (pm ctv : Value) (us : List Value), us.length = 1 → bindArgs (PySem.W.kla_fn "<lambda>" (X.env.qual ++ "<lambda>") params body scope (cloFrom X.env.cells scope.names []) pm (.ref c') ctv) ⟨us, []⟩ = pure ([p].zip us)
  hbody : ∀ (f c' : Addr) (A : Around) (outer : List Env) (s : Shared) (H : Hp) (E : XK), Room k (A.deeper (envF (lamNF (X.env.qual ++ "<lambda>") params scope (cloFrom X.env.cells scope.names []) c') f s.heap.objs.size)) → ∃ t, DD (ncx (L2N.CX X.prog X.w) X.prog X.w K X.mg X.base N (lamNF (X.env.qual ++ "<lambda>") params scope (cloFrom X.env.cells scope.names []) c') f A outer s H E) W0 body t de
theorem key_set {K : PySem.W.Frag} (L : LamKey X K N fr p js k c P params body scope de) (ok : X.Ok) (f c' : Addr) : KeySet X K N fr p js k f c' (X.env.qual ++ "<lambda>") params body scope (cloFrom X.env.cells scope.names []) de :=
  ⟨L.S, L.hb c', Caps.made ok L.hfree L.hfr L.hjs, L.hbody f c'⟩
theorem dd_keyMax {K : PySem.W.Frag} (hr : Room (k + 2) X.A) (L : LamKey X K N fr p js k c P params body scope de) (hg : Gl X "max") (hm : X.mg "max" = none) (hv : bootBuiltins "max" = some (.builtin "max")) (ha : AD X W [it] ta da) (hK : X.K = K := by rfl)
    (he : backTo pos (starEach [it] X.env) = (false, eval it X.env) :: backTo pos (starEach [] X.env) := by rfl) (hpl : (backTo pos (starEach [it] X.env)).any (·.1) = false := by rfl)
    (hall : (backToKw pos (keywordEach [⟨some "key", .Lambda params body scope lpos, kpos⟩] X.env)).all (·.1.isSome) = true := by rfl) (hnone : (backToKw pos (keywordEach [⟨some "key", .Lambda params body scope lpos, kpos⟩] X.env)).any (·.1.isNone) = false := by rfl)
    (hks : (backToKw pos (keywordEach [⟨some "key", .Lambda params body scope lpos, kpos⟩] X.env)).filterMap (·.1) = [Str.ofString "key"] := by rfl) :
    DD X W (.Call (.Name "max" p0) [it] [⟨some "key", .Lambda params body scope lpos, kpos⟩] pos) (tSem K W (dKeyB true N.length js de da)) (dKeyB true N.length js de da) := by
  subst hK
  refine ⟨⟨fun pins s σ H Q I h => ?_⟩, sem_ev⟩
  obtain ⟨Z, F, μ, c0, R, pp⟩ := h
  refine wpAny_Call_Name_kw (ld_blt I hg hm hv ?_ (by decide) (by decide))
  refine PyProof.Rows.callWith_kw (thn (ha.pa.run pos pins s σ H (fun vs H1 => ∃ ds c1 F1 μ1, Le F μ F1 μ1 ∧ Rel X.K Z F1 μ1 c1 σ H1 ∧ Reps X.K F1 μ1 vs ds ∧ Post X.K Z F1 μ1 σ W ((match ds with
  | [x] => keyRun true N.length js de x
  | _ => M.no) c1) (fun x _ F' μ' H' => ∀ v, Rep X.K F' μ' v x → Q v H')) I (ha.ev Z F μ c0 σ H _ R (pp.bind.imp fun ds c1 F1 μ1 H1 l1 R1 p1 vs rs => ⟨ds, c1, F1, μ1, l1, R1, rs, p1⟩))) fun us s1 ⟨vs, H1, I1, r1, q1⟩ => ?_) he hpl hall hnone
  obtain ⟨ds, c1, F1, μ1, l1, R1, rs, p1⟩ := q1
  rw [hks]
  cases rs with
  | nil => exact p1.elim
  | cons rx rs =>
    cases rs with
    | cons _ _ => exact p1.elim
    | nil =>
      rename_i v x
      dsimp only at p1
      unfold keyRun at p1
      cases hx : seqF x with
      | none => rw [hx] at p1; exact p1.elim
      | some kl =>
        obtain ⟨kd, l⟩ := kl
        rw [hx] at p1
        cases l with
        | nil => exact p1.elim
        | cons d r =>
          dsimp only at p1
          obtain ⟨a, ws, rfl, hq, hd⟩ : ∃ a ws, v = .ref a ∧ SqK kd X.K F1 a ws ∧ Reps X.K F1 μ1 ws (d :: r) := by
            unfold seqF at hx
            cases rx with
            | lst h1 h2 => cases hx; exact ⟨_, _, rfl, .of h1, h2⟩
            | tup h1 h2 => cases hx; exact ⟨_, _, rfl, h1, h2⟩
            | _ => cases hx
          split at p1
          · next xs hc =>
            split at p1
            · next hn =>
              split at p1
              · next y S1 hg1 =>
                split at p1
                · next py hp =>
                  split at p1
                  · next ys S2 em =>
                    split at p1
                    · next res eb =>
                      rw [Vals.ref1 r1]
                      refine thn ((pk_cons (nm := some (Str.ofString "key")) (kpos := kpos) (pe_lam (lpos := lpos) rfl L.TB L.hcode L.mem L.one L.hdef L.hfree) pk_nil).run pos pins s1 σ H1 (fun zs H2 => ∃ f c' F2, zs = [.ref f] ∧ Le F1 μ1 F2 μ1 ∧ Rel X.K Z F2 μ1 c1 σ H2 ∧ F2 f = some (LamO f (X.env.qual ++ "<lambda>") params body scope (cloFrom X.env.cells scope.names []) c') ∧ F2 c' = some (CodeO c' (X.env.qual ++ "<lambda>"))) I1 ⟨Z, F1, μ1, c1, R1, fun f c' F2 H2 l2 R2 f1 f2 => ⟨f, c', F2, rfl, l2, R2, f1, f2⟩⟩) fun kus s2 ⟨zs, H2, I2, r2, q2⟩ => ?_
                      obtain ⟨f, c', F2, rfl, l2, R2, f1, f2⟩ := q2
                      rw [Vals.ref1 r2]
                      have cap : ∀ S, Capt ⟨c1.r, S⟩ js xs := fun S => captD_ok ((captD_r (r := c1.r) (S := S) (S' := c1.S) js).trans hc)
                      exact max_run rfl (key_set L I2.ok f c') hr cap hn I2 R2 (SqK.same l2.ex hq) (hd.mono l2) f1 f2 hg1 hp em eb fun F' μ' H' s' v u le I' R' ru rv => ⟨v, H', I', ru, p1 F' μ' H' (l2.trans le) R' v rv⟩
                    · exact p1.elim
                  · exact p1.elim
                · exact p1.elim
              · exact p1.elim
            · exact p1.elim
          · exact p1.elim
end
end My

set_option Elab.async false
set_option linter.all false
set_option maxRecDepth 100000
set_option maxHeartbeats 4000000
/-! F42: index, a field counted up, a dict that is written out, reverse. -/
namespace My
open PySem L2
variable [TabEnv]
/-! ### o.index(e), flat items -/
def idxV (y : V) : List V → Option Nat
  | [] => none
  | z :: r => if eqV z y = true then some 0 else (idxV y r).map (· + 1)
omit [TabEnv] in
theorem idxV_at {y : V} : ∀ {vs : List V} {j : Nat}, idxV y vs = some j → (∃ z, vs[j]? = some z ∧ eqV z y = true) ∧ ∀ (m : Nat) (z' : V), m < j → vs[m]? = some z' → eqV z' y = false
  | [], _, e => by cases e
  | z :: r, j, e => by
    unfold idxV at e
    split at e
    · next h => cases e; exact ⟨⟨z, rfl, h⟩, fun m z' hm => absurd hm (Nat.not_lt_zero _)⟩
    · next h =>
      cases q : idxV y r with
      | none => rw [q] at e; cases e
      | some i =>
        rw [q] at e
        cases e
        obtain ⟨⟨w, h1, h2⟩, h3⟩ := idxV_at q
        refine ⟨⟨w, h1, h2⟩, fun m z' hm hz => ?_⟩
        cases m with
        | zero => cases hz; simpa using h
        | succ m => exact h3 m z' (Nat.lt_of_succ_lt_succ hm) hz
section
variable {X : Cx} {W : WX} {e o : Expr} {t to te : TE} {pos apos : Pos} {dob : M O} {de dv : M D}
/-- o.index(e) -/
def dIdx (dob : M O) (de : M D) : M D := M.bind dob fun o c => match lstD c o with
  | some _ => M.bind de (fun x c => match lstD c o, x with
    | some ds, .v y => match vsD ds with
      | some vs => if flatV y = true then match idxV y vs with
        | some j => .ok (.v (.int (j : Nat))) c
        | none => .no
        else .no
      | none => .no
    | _, _ => .no) c
  | none => .no
theorem dd_idxL {K : PySem.W.Frag} (ho : ED X W o to dob) (he : DD X W e te de) (hbase : attributeBase o "index" X.env (eval o X.env) = eval o X.env := by rfl)
    (hfew : ((backTo pos (starEach [e] X.env)).all (fun x => !x.1) && (backToKw pos (keywordEach [] X.env)).all (fun x => x.1.isSome)
      && decide (([e] : List Expr).length + ([] : List Keyword).length + (if ([] : List Keyword).isEmpty then 0 else 1) < 30)) = true := by rfl)
    (hline : (apos.endLine == pos.line) = true := by rfl) (hs : starEach [e] X.env = (false, eval e X.env) :: starEach [] X.env := by rfl) (hplain : (backTo pos (starEach [] X.env)).any (·.1) = false := by rfl)
    (hs2 : starEach [e] X.env = (false, eval e X.env) :: starEach [] X.env := by rfl) (hK : X.K = K := by rfl) :
    DD X W (.Call (.Attribute o "index" apos) [e] [] pos) (tBM K "list" (rIndex K) to (tCons te tNil)) (dIdx dob de) := by
  subst hK
  exact ⟨pe_bm PySem.F.plainAttrs_list PySem.F.slot_list_index PySem.F.type_list_index mt_index ho.pe (pa_cons he.pe pa_nil hs2) hbase hfew hline hs hplain, fun Z F μ c σ H Q R p => ho.ev Z F μ c σ H _ R (p.bind.imp fun oo c1 F1 μ1 H1 l1 R1 p1 v1 r1 => by
    split at p1
    · next ds0 hs0 =>
      obtain ⟨a0, vs0, rfl, h0, _⟩ := lst_at R1 r1 (show lstD c1 oo = some ds0 from hs0)
      refine ⟨.inl ⟨rfl, _, .of h0⟩, he.ev Z F1 μ1 c1 σ H1 _ R1 (p1.bind.imp fun x c2 F2 μ2 H2 l2 R2 p2 v2 r2 => ?_)⟩
      split at p2
      · next ds y hs1 =>
        split at p2
        · next vs hv =>
          split at p2
          · next fy =>
            split at p2
            · next j hj =>
              obtain ⟨a2, vs2, e2, h2, rs⟩ := lst_at R2 (r1.mono l2) (show lstD c2 oo = some ds from hs1)
              cases e2
              obtain ⟨rfl, fa⟩ := vs_of rs hv
              cases r2
              obtain ⟨⟨z, g1, g2⟩, g3⟩ := idxV_at hj
              exact ⟨a0, vs2, _, j, z, rfl, rfl, .of h2, fy, fa, g1, g2, g3, p2 F2 μ2 H2 (Le.refl _ _) R2 _ (.v _)⟩
            · exact p2.elim
          · exact p2.elim
        · exact p2.elim
      · exact p2.elim
    · exact p1.elim)⟩
/-! ### o.reverse() -/
/-! ### o.f += e -/
def dFldAug (Cs : List Addr) (f : Str) (op : Int → Int → Int) (dob : M O) (dv : M D) : M Fl := M.bind dob fun x c => match x with
  | .d (.loc n) => match insA c (.d (.loc n)) with
    | some (C, fs) => if C ∈ Cs then match fs.lookup f with
      | some (.v (.int i)) => M.bind dv (fun y c => match y with
        | .v (.int j) => match insD c C (.loc n) with
          | some fs => if fs.length < 1000 then .ok .nx ⟨c.r, c.S.set n (.ins C (putFD f (.v (.int (op i j))) fs))⟩ else .no
          | none => .no
        | _ => .no) c
      | _ => .no
      else .no
    | none => .no
  | _ => .no
theorem sd_fldaug {K : PySem.W.Frag} {Cs : List Addr} {f : Str} {tpos : Pos} {op : Operator} {g : Int → Int → Int} {rd : V → V → Hp → VK → Prop} (hop : InOp X op rd) (hrd : ∀ i j H Q, Q (.int (g i j)) H → rd (.int i) (.int j) H Q) (cl : ∀ C ∈ Cs, Cls X.K C ∧ NoAttr X.K C f) (ho : ED X W o to dob) (hv : DD X W e te dv) (hK : X.K = K := by rfl) :
    SD X W (.AugAssign (.Attribute o f tpos) op e pos) (sFldAug K to te rd f) (dFldAug Cs f g dob dv) := by
  subst hK
  exact ⟨ps_fldaug ho.pe hv.pe hop, fun Z F μ c σ H D R p => ho.ev Z F μ c σ H _ R (p.bind.imp fun x c1 F1 μ1 H1 l1 R1 p1 v r => by
    split at p1
    · next n =>
      split at p1
      · next C fs hfs =>
        split at p1
        · next hC =>
          split at p1
          · next i hy =>
            obtain ⟨a, dx, gs, n', e1, rfl, hn, hs, ha, k, rs⟩ := ins_atO R1 r (insA_O hfs)
            cases e1
            obtain ⟨u, hu, ru⟩ := lookup_rep k rs hy
            cases ru
            refine ⟨a, C, dx, gs, _, rfl, ha, (cl C hC).1, (cl C hC).2, hu, hv.ev Z F1 μ1 c1 σ H1 _ R1 (p1.bind.imp fun y c2 F2 μ2 H2 l2 R2 p2 w rw' => ?_)⟩
            split at p2
            · next j =>
              split at p2
              · next fs2 hfs2 =>
                split at p2
                · next hz =>
                  cases rw'
                  obtain ⟨a2, dx2, gs2, n2, e2, e3, hn2, hs2, ha2, k2, rs2⟩ := ins_atO R2 (r.mono l2) (show insO c2 C (.d (.loc n)) = some fs2 from hfs2)
                  cases e2
                  cases e3
                  obtain ⟨k', rs'⟩ := putF_rep (f := f) (Rep.v (K := X.K) (F := F2) (μ := μ2) (.int (g i j))) k2 rs2
                  have hl : gs2.length < 1000 := by
                    have : (gs2.map (·.1)).length = (fs2.map (·.1)).length := by rw [k2]
                    rw [List.length_map, List.length_map] at this
                    omega
                  exact hrd i j H2 _ ⟨dx2, gs2, ha2, hl, p2 _ F2 μ2 _ (Le.refl _ _) (R2.put hs2 trivial hn2 (.ins k' rs'))⟩
                · exact p2.elim
              · exact p2.elim
            · exact p2.elim
          · exact p1.elim
        · exact p1.elim
      · exact p1.elim
    · exact p1.elim)⟩
omit [TabEnv] in
theorem rd_add (i j : Int) (H : Hp) (Q : VK) (q : Q (.int (i + j)) H) : rAdd (.int i) (.int j) H Q := ⟨i, j, rfl, rfl, q⟩
end
/-! ### a dict that is written out -/
def dPairs : List (M D × M D) → M (List (Key × D))
  | [] => M.pure []
  | p :: r => M.bind p.1 fun k => M.bind p.2 fun v => M.bind (dPairs r) fun ps c => match keyD k with
    | some kk => .ok ((kk, v) :: ps) c
    | none => .no
def dDisp (l : List (M D × M D)) : M D := M.bind (dPairs l) fun ps c => if ps.length ≤ 15 then .ok (.loc c.S.length) ⟨c.r, c.S ++ [.dct (mergeD [] ps)]⟩ else .no
structure PPD (X : Cx) (W : WX) (pos : Pos) (keys : List (Option Expr)) (values : List Expr) (trs : List (TE × TE)) (l : List (M D × M D)) : Prop where
  pp : PPs X pos keys values trs
  ev : ∀ (Z F : Hp) (μ : List Addr) (c : Stt) (σ : St) (H : Hp) (P : List (V × V) → Hp → Prop), Rel X.K Z F μ c σ H →
    Post X.K Z F μ σ W (dPairs l c) (fun ps _ F' μ' H' => ∀ kvs : List (Key × V), kvs.map (·.1) = ps.map (·.1) → Reps X.K F' μ' (kvs.map (·.2)) (ps.map (·.2)) → P (kvs.map fun kv => (kV kv.1, kv.2)) H') → tPairs trs σ H P
section
variable {X : Cx} {W : WX} {pos : Pos} {keys : List (Option Expr)} {values : List Expr} {trs : List (TE × TE)} {l : List (M D × M D)} {k v : Expr} {tk tv : TE} {dk dv : M D}
theorem ppd_nil : PPD X W pos [] [] [] [] := ⟨pps_nil, fun Z F μ c σ H P R p => p F μ H (Le.refl _ _) R [] rfl .nil⟩
theorem ppd_cons (hk : DD X W k tk dk) (hv : DD X W v tv dv) (h : PPD X W pos keys values trs l) : PPD X W pos (some k :: keys) (v :: values) ((tk, tv) :: trs) ((dk, dv) :: l) :=
  ⟨pps_cons hk.pe hv.pe h.pp, fun Z F μ c σ H P R p => hk.ev Z F μ c σ H _ R (p.bind.imp fun x c1 F1 μ1 H1 l1 R1 p1 u ru => hv.ev Z F1 μ1 c1 σ H1 _ R1 (p1.bind.imp fun y c2 F2 μ2 H2 l2 R2 p2 w rw' => h.ev Z F2 μ2 c2 σ H2 _ R2 (p2.bind.imp fun ps c3 F3 μ3 H3 l3 R3 p3 kvs hkv rs => by
    split at p3
    · next kk hkk =>
      have := key_at ru hkk
      subst this
      exact p3 F3 μ3 H3 (Le.refl _ _) R3 ((kk, w) :: kvs) (by rw [List.map_cons, List.map_cons, hkv]) (.cons (rw'.mono l3) rs)
    · exact p3.elim)))⟩
theorem dd_disp (h : PPD X W pos keys values trs l) (hall : keys.all (·.isSome) = true := by rfl) (hl : keys.length = values.length := by rfl) (h0 : keys ≠ [] := by exact fun z => by cases z) (h15 : keys.length ≤ 15 := by decide) :
    DD X W (.Dict keys values pos) (tDisp trs) (dDisp l) := ⟨pe_disp h.pp hall hl h0 h15, fun Z F μ c σ H Q R p q hq => by
  have nb := R.nob hq
  have Ra := rel_aside (o := .dK []) (R.up (same_new hq)) upd_same ⟨nb.f, nb.z, nb.no, nb.nm⟩
  refine h.ev (upd Z q (.dK [])) F μ c σ _ _ Ra ?_
  unfold dDisp M.bind at p
  cases e : dPairs l c with
  | no => rw [e] at p; exact p.elim
  | ex x c1 => rw [e] at p; exact fun cls od F1 μ1 H1 l1 R1 rx => p cls od F1 μ1 H1 l1 (aside_nob R1 nb.z).1 rx
  | ok ps c1 =>
    rw [e] at p
    dsimp only at p
    intro F1 μ1 H1 l1 R1 kvs hk rs
    obtain ⟨R2, n2, h2⟩ := aside_nob R1 nb.z
    split at p
    · next hz =>
      obtain ⟨m1, m2⟩ := merge_rep (kvs := []) (ks := []) hk rs rfl .nil
      have hz' : kvs.length ≤ 15 := by
        have : (kvs.map (·.1)).length = (ps.map (·.1)).length := by rw [hk]
        rw [List.length_map, List.length_map] at this
        omega
      refine ⟨h2, kvs, rfl, hz', ?_⟩
      have R3 : Rel X.K Z F1 μ1 c1 σ (upd H1 q (.dK (mergeK [] kvs))) := (aside_nob (aside_put (o' := .dK (mergeK [] kvs)) R1 nb.z noTab_dK) nb.z).1
      obtain ⟨R4, l4⟩ := R3.push (m := .dct (mergeD [] ps)) upd_same n2.f n2.z n2.no n2.nm (.dct m1 (m2.mono ⟨Same.refl _, fun n x hx => by
        rw [List.getElem?_append_left (List.getElem?_eq_some_iff.mp hx).1]; exact hx⟩))
      refine p F1 _ _ (l1.trans l4) R4 _ (.loc ?_)
      have : μ1.length = c1.S.length := R2.lm
      rw [← this]
      simp
    · exact p.elim⟩
end
end My

set_option Elab.async false
set_option linter.all false
set_option maxRecDepth 100000
set_option maxHeartbeats 4000000
/-! F30: own exceptions with a field: made by their __init__, raised, the field read. -/
namespace My
open PySem L2
variable [TabEnv]
/-! ### def __init__(self, f): self.f = f -/
omit [TabEnv] in
/-- a class with a field of its own -/
structure HasX (K : PySem.W.Frag) (mg : Str → Option Value) (x : Str) (C : Addr) (f qual : Str) (st : Stmt) (ps : List Str) : Prop where
  ex : ∃ fI fd, Fun K "__init__" qual st fI fd ∧ PySem.W.findIn K (.ref C) "__init__" = some (some (.ref fI)) ∧ PySem.W.typeIn K (.ref fI) = some (.type "function") ∧ ∀ us : List Value, us.length = ps.length → bindArgs fd ⟨us, []⟩ = pure (ps.zip us)
  o : OexC K C
  n : PySem.W.findIn K (.ref C) f = some none
  m : mg x = some (.ref C)
/-! ### raise C(e) -/
section
variable {X : Cx} {W : WX} {pos pos' : Pos}
end
/-! ### e.f, e an exception that is held -/
section
variable {X0 : Cx} {W : WX} {pos : Pos}
end
/-! ### C(e).f: made by hand, looked at, let go -/
section
variable {X : Cx} {W : WX} {pos pos' : Pos}
end
end My

set_option Elab.async false
set_option linter.all false
set_option maxRecDepth 100000
set_option maxHeartbeats 4000000
/-! F31: a def that is handed a held exception. -/
namespace My
open PySem PySem.Spec PyProof.Rows L2
variable [TabEnv]
section
variable {X : Cx} {W : WX} {pos : Pos}
end
end My

set_option Elab.async false
set_option linter.all false
set_option maxRecDepth 100000
set_option maxHeartbeats 4000000
/-! F32: sorted(texts), of a list or a tuple. -/
namespace My
open PySem PySem.Spec PyProof.Rows L2
variable [TabEnv]
omit [TabEnv] in
open Classical in
noncomputable def sortS (xs : List Str) : List Str := if h : ∃ ys : List Str, ys.Perm xs ∧ sortedS ys = true then h.choose else []
end My

set_option Elab.async false
set_option linter.all false
set_option maxRecDepth 100000
set_option maxHeartbeats 4000000
/-! F33: comprehensions within an except suite. -/
namespace My
open PySem PySem.Spec PyProof.Rows L2
variable [TabEnv]
section
variable {X : Cx}
end
/-! ### the image of such a comprehension -/
section
variable {X : Cx} {W : WX} {pos : Pos}
structure IDH (X : Cx) (W : WX) (tg iter : Expr) (wi : TI) (di : M (List D)) : Prop where
  pi : L2H.PIH X tg iter wi
  ev : EvI X.K W wi di
end
end My

set_option Elab.async false
set_option linter.all false
set_option maxRecDepth 100000
set_option maxHeartbeats 4000000
/-! F34: enumerate over a text. -/
namespace My
open PySem PySem.Spec PyProof.Rows PyProof L2
variable [TabEnv]
section
variable {X : Cx} {W : WX}
end
end My

set_option Elab.async false
set_option linter.all false
set_option maxRecDepth 100000
set_option maxHeartbeats 4000000
/-! F35: split at a text; in a tuple of plain data. -/
namespace My
open PySem PySem.Spec PyProof.Rows PyProof L2
variable [TabEnv]
section
variable {X : Cx} {W : WX} {a b : Expr} {ta tb : TE} {pos : Pos}
end
section
variable {X : Cx} {W : WX}
end
end My

set_option Elab.async false
set_option linter.all false
set_option maxRecDepth 100000
set_option maxHeartbeats 4000000
/-! F36: dicts of the store whose keys are a text and a tuple of texts. -/
namespace My
open PySem PySem.Spec PyProof.Rows PyProof L2
variable [TabEnv]
section
variable {K : PySem.W.Frag} {F : Hp} {μ : List Addr}
end
section
variable {X : Cx} {W : WX} {pos : Pos}
end
end My

set_option Elab.async false
set_option linter.all false
set_option maxRecDepth 100000
set_option maxHeartbeats 4000000
/-! F37: the end by one kernel run: what the top has left, read off the heap. -/
namespace My
open PySem PySem.Spec PyProof.Rows L2
variable [TabEnv]
section
variable {K : PySem.W.Frag} {h : Heap} {mg : Str → Option Value} {x qual : Str} {st : Stmt} {f : Addr} {fd : FuncData} {ps : List Str}
omit [TabEnv] in
theorem fun_ofD (F : FunD K x qual (defArgs st) (defBody st) (defScope st) [] [] f fd) : Fun K x qual st f fd := by
  obtain ⟨oc, od, dV, kV, doc, pm, an, cdv, ct, osl, e, l, c, d, _⟩ := F.ex
  rcases d with ⟨_, rfl⟩ | ⟨hd, _⟩
  · exact ⟨⟨oc, od, kV, doc, pm, an, cdv, ct, osl, e, l, c⟩, F.kp⟩
  · exact absurd rfl hd
omit [TabEnv] in
abbrev BindA (x qual : Str) (st : Stmt) (ps : List Str) : Prop := ∀ (kV doc pm : Value) (an : Option Addr) (cdv ct : Value) (us : List Value), us.length = ps.length → bindArgs (PySem.W.fnOf x qual (defArgs st) (defBody st) (defScope st) .none kV doc pm an cdv ct) ⟨us, []⟩ = pure (ps.zip us)
omit [TabEnv] in
theorem bind_ofD (F : Fun K x qual st f fd) (b : BindA x qual st ps) : ∀ us : List Value, us.length = ps.length → bindArgs fd ⟨us, []⟩ = pure (ps.zip us) := by
  obtain ⟨oc, od, kV, doc, pm, an, cdv, ct, osl, rfl, _⟩ := F.ex
  exact b kV doc pm an cdv ct
omit [TabEnv] in
/-- a def of one's own, as the head tells it -/
def dDef (x qual : Str) (m : Option Str) (nm : Str) (st : Stmt) : He.DefD := ⟨(x, m), nm, qual, defArgs st, defBody st, defScope st, [], []⟩
omit [TabEnv] in
theorem has_h (X : K.In h) (G : h.Ns mainGlobals mg) (b : BindA x qual st ps) (g : (He.Fa.glo x).ok K = true) (d : ∃ fd, FunD K x qual (defArgs st) (defBody st) (defScope st) [] [] (He.fAd K (x, none)) fd) : Has K mg x qual st ps := by
  obtain ⟨fd, F⟩ := d
  exact ⟨_, fd, fun_ofD F, He.glo_ok X G g, bind_ofD (fun_ofD F) b⟩
omit [TabEnv] in
theorem hasC_h (X : K.In h) (G : h.Ns mainGlobals mg) (b : BindA "__init__" qual st ps) (g : (He.Fa.glo x).ok K = true) (m : (He.Fa.mkr x).ok K = true) (d : ∃ fd, FunD K "__init__" qual (defArgs st) (defBody st) (defScope st) [] [] (He.fAd K (x, some "__init__")) fd) : HasC K mg x (He.ga K x) qual st ps := by
  obtain ⟨fd, F⟩ := d
  exact ⟨_, fd, fun_ofD F, He.mkr_ok m, He.glo_ok X G g, bind_ofD (fun_ofD F) b⟩
end
section
variable {K : PySem.W.Frag} {h : Heap} {mg : Str → Option Value} {x m qual : Str} {st : Stmt} {ps : List Str}
omit [TabEnv] in
theorem hasM_h (b : BindA m qual st ps) (t : (He.Fa.meth x m).ok K = true) (d : ∃ fd, FunD K m qual (defArgs st) (defBody st) (defScope st) [] [] (He.fAd K (x, some m)) fd) : HasM K (He.ga K x) m qual st ps := by
  obtain ⟨fd, F⟩ := d
  exact ⟨_, fd, fun_ofD F, He.meth_ok t, bind_ofD (fun_ofD F) b⟩
omit [TabEnv] in
def valB (o : Option PySem.W.CFound) (a : Addr) : Bool := match o with
  | some (.val (.ref b)) => decide (b = a)
  | _ => false
omit [TabEnv] in
theorem valB_ok {o : Option PySem.W.CFound} {a : Addr} (h : valB o a = true) : o = some (.val (.ref a)) := by
  unfold valB at h
  split at h
  · exact congrArg (fun z => some (PySem.W.CFound.val (.ref z))) (of_decide_eq_true h)
  · cases h
omit [TabEnv] in
/-- a function of a class, read off the class -/
def hbB (x m : Str) (K : PySem.W.Frag) : Bool := PySem.W.readsIn K (He.ga K x) (.type "type") && (decide (PySem.W.specialIn K (.ref (He.ga K x)) "__getattribute__" = some (some (.builtin "type.__getattribute__"))) && valB (PySem.W.findCls K (.ref (He.ga K x)) (.type "type") m) (He.ma K (He.ga K x) m))
omit [TabEnv] in
theorem hasB_h (X : K.In h) (G : h.Ns mainGlobals mg) (b : BindA m qual st ps) (g : (He.Fa.glo x).ok K = true) (t : hbB x m K = true) (d : ∃ fd, FunD K m qual (defArgs st) (defBody st) (defScope st) [] [] (He.fAd K (x, some m)) fd) : HasB K mg x m qual st ps := by
  obtain ⟨fd, F⟩ := d
  obtain ⟨h1, t⟩ := He.ba t
  obtain ⟨h2, h3⟩ := He.ba t
  exact ⟨_, _, fd, fun_ofD F, He.glo_ok X G g, ⟨h1, of_decide_eq_true h2⟩, valB_ok h3, bind_ofD (fun_ofD F) b⟩
omit [TabEnv] in
def ndB (xs : List Str) (K : PySem.W.Frag) : Bool := decide ((xs.map fun x => He.ga K x).Nodup)
omit [TabEnv] in
/-- one of the further tests -/
theorem bat {bs : List (PySem.W.Frag → Bool)} (h : (bs.all fun f => f K) = true) (i : Nat) {f : PySem.W.Frag → Bool} (e : bs[i]? = some f := by rfl) : f K = true := List.all_eq_true.mp h f (List.mem_of_getElem? e)
end
/-! ### what is looked at: forced, so that the kernel keeps it short -/
omit [TabEnv] in
def frA {α : Type} : List Addr → (List Addr → α) → α
  | [], k => k []
  | a :: r, k => HandSHeadRun.frNat a fun a => frA r fun r => k (a :: r)
omit [TabEnv] in
theorem frA_eq {α : Type} : ∀ (l : List Addr) (k : List Addr → α), frA l k = k l
  | [], _ => rfl
  | a :: r, k => by
    show HandSHeadRun.frNat a (fun a => frA r fun r => k (a :: r)) = _
    rw [HandSHeadRun.frNat_eq, frA_eq r]
omit [TabEnv] in
def frK {α : Type} : PySem.W.Frag → (PySem.W.Frag → α) → α
  | [], k => k []
  | (a, ⟨c, d, dt, sl⟩) :: r, k => HandSHeadRun.frNat a fun a => frK r fun r => k ((a, ⟨c, d, dt, sl⟩) :: r)
omit [TabEnv] in
theorem frK_eq {α : Type} : ∀ (l : PySem.W.Frag) (k : PySem.W.Frag → α), frK l k = k l
  | [], _ => rfl
  | (a, ⟨c, d, dt, sl⟩) :: r, k => by
    show HandSHeadRun.frNat a (fun a => frK r fun r => k ((a, ⟨c, d, dt, sl⟩) :: r)) = _
    rw [HandSHeadRun.frNat_eq, frK_eq r]
omit [TabEnv] in
def valsD (o : Obj) : List Addr := match o.data with
  | .dict es _ => es.toList.flatMap fun e => He.refV e.val
  | _ => []
omit [TabEnv] in
def nxtD (o : Obj) : List Addr := match o.data with
  | .func fd => He.refV fd.code
  | .cls cd => [cd.ns]
  | _ => []
omit [TabEnv] in
def lookD (g : Addr → Option Obj) (f : Obj → List Addr) (a : Addr) : List Addr := match g a with
  | some o => f o
  | none => []
omit [TabEnv] in
/-- the top's names, the defs' code, the classes' names, the methods' code -/
def asP {α : Type} (g : Addr → Option Obj) (k : List Addr → α) : α := frA (lookD g valsD mainGlobals) fun L1 => frA (L1.flatMap (lookD g nxtD)) fun L2 => frA (L2.flatMap (lookD g valsD)) fun L3 => frA (L3.flatMap (lookD g nxtD)) fun L4 => k (mainGlobals :: cStatics :: (L1 ++ (L2 ++ (L3 ++ L4))))
omit [TabEnv] in
theorem asP_eq {α : Type} (g : Addr → Option Obj) (k : List Addr → α) : ∃ l, asP g k = k l := by
  unfold asP
  rw [frA_eq, frA_eq, frA_eq, frA_eq]
  exact ⟨_, rfl⟩
end My
namespace L2
open PySem PySem.Spec PyProof.Rows
end L2

set_option Elab.async false
set_option linter.all false
set_option maxRecDepth 100000
set_option maxHeartbeats 4000000
/-! F38: three comparisons in a row, sorted(ints) of a list or a tuple, list.extend, list.count of a text, isinstance(e, (A, B, ..)). -/
namespace My
open PySem PySem.Spec PyProof PyProof.Rows L2
variable [TabEnv]
/-! ### sorted(ints) -/
/-! ### list.count of a text -/
section
variable {X : Cx} {W : WX} {pos apos : Pos} {o e : Expr} {to te : TE} {dob : M O} {de : M D}
/-! ### list.extend -/
end
/-! ### three comparisons in a row -/
section
variable {X : Cx} {W : WX} {pos : Pos} {a b e f : Expr} {ta tb tc td : TE} {da db dc df : M O}
end
/-! ### isinstance(e, (A, B, ..)), e an exception that is held -/
section
variable {X : Cx} {W : WX} {pos : Pos}
end
end My

set_option Elab.async false
set_option linter.all false
set_option maxRecDepth 100000
set_option maxHeartbeats 4000000
/-! F39: comprehensions over a list within an except suite; name = [..] there. -/
namespace L2H
open PySem PySem.Spec PySem.Calls PyProof PyProof.Rows L2 HotX
section
variable {prog : Program} {w : World} {A : Around} {E : Value → Shared → Prop} {s : Shared}
end
end L2H
namespace My
open PySem PySem.Spec PyProof.Rows L2
variable [TabEnv]
section
variable {X : Cx}
end
section
variable {X : Cx} {W : WX} {pos : Pos}
end
end My

set_option Elab.async false
set_option linter.all false
set_option maxRecDepth 100000
set_option maxHeartbeats 4000000
/-! F44: defs that make lambdas: their code objects, the tables; the law's end with tables. -/
namespace My
open PySem L2
/-- the code object of a def of that name -/
def LamAt (K : PySem.W.Frag) (qual : Str) (c : Addr) : Prop := ∀ (x : Str) (st : Stmt) (f : Addr) (fd : FuncData), Fun K x qual st f fd → fd.code = .ref c
/-- read off a list of objects -/
def refIs (c : Addr) : Value → Bool
  | .ref b => decide (b = c)
  | _ => false
theorem refIs_ok {c : Addr} {v : Value} (h : refIs c v = true) : v = .ref c := by
  unfold refIs at h
  split at h
  · rw [of_decide_eq_true h]
  · cases h
def lamB (qual : Str) (K : PySem.W.Frag) (c : Addr) : Bool := K.all fun e => match e.2.data with
  | .func fd => !(fd.qualname == qual) || refIs c fd.code
  | _ => true
theorem mem_look {K : PySem.W.Frag} {a : Addr} {o : Obj} : ∀ {l : PySem.W.Frag}, l.lookup a = some o → (a, o) ∈ l
  | [], e => by cases e
  | (b, u) :: r, e => by
    rw [List.lookup_cons] at e
    cases q : a == b with
    | true =>
      rw [q] at e
      cases e
      rw [beq_iff_eq.mp q]
      exact List.mem_cons_self
    | false =>
      rw [q] at e
      exact List.mem_cons_of_mem _ (mem_look (K := K) e)
theorem lamB_ok {K : PySem.W.Frag} {qual : Str} {c : Addr} (h : lamB qual K c = true) : LamAt K qual c := by
  intro x st f fd F
  obtain ⟨oc, od, kV, doc, pm, an, cdv, ct, osl, rfl, lk, _⟩ := F.ex
  have := List.all_eq_true.mp h _ (mem_look (K := K) lk)
  dsimp only at this
  have e2 : (PySem.W.fnOf x qual (defArgs st) (defBody st) (defScope st) .none kV doc pm an cdv ct).code = cdv := rfl
  rw [e2]
  have this : (!(qual == qual) || refIs c cdv) = true := this
  rw [beq_self_eq_true] at this
  exact refIs_ok this
section
variable [TabEnv]
theorem fn_okC {P : Program} {w : World} {K : PySem.W.Frag} {mg : Str → Option Value} {base : Heap} {x qual : Str} {st : Stmt} {f ca : Addr} {fd : FuncData} {N ps : List Str} {j k : Nat} {b : M Fl} (F : Fun K x qual st f fd) (hc : LamAt K qual ca) (S : FnScope N ps (defScope st)) (hk : ps.length = k) (hN : k ≤ N.length)
    (body : ∀ (A : Around) (outer : List Env) (s : Shared) (H : Hp) (E : XK), Room j (A.deeper (PyProof.Rows.envOfC qual (defScope st) s.heap.objs.size f (.ref ca))) →
      ∃ t, BD (cxOf (L2N.CX P w) P w K mg base N qual (defScope st) f (.ref ca) A outer s H E) (fun cls d _ H => E cls d H) (defBody st) t b) : FnOk P w K mg base (L2N.CX P w) (j + 1) f fd ps (spG K (runD N.length k b)) := by
  have hcode := hc x st f fd F
  obtain ⟨oc, od, kV, doc, pm, an, cdv, ct, osl, rfl, lk, hcd⟩ := F.ex
  have e2 : (PySem.W.fnOf x qual (defArgs st) (defBody st) (defScope st) .none kV doc pm an cdv ct).code = cdv := rfl
  rw [e2] at hcode
  subst hcode
  refine fn_of lk hcd S (fun vs H Q E h => ?_) (fun A outer s H vs Q E hr h => ?_)
  · obtain ⟨Z, F, μ, S, ds, _, rs, p⟩ := h
    unfold runD at p
    split at p
    · next hl => rw [rs.length, hl, hk]
    · exact p.elim
  · obtain ⟨t, B⟩ := body A outer s H E hr
    refine ⟨t, B.ps, ?_⟩
    obtain ⟨Z, F, μ, S, ds, R, rs, p⟩ := h
    unfold runD at p
    split at p
    · next hl =>
      refine B.ev Z F μ _ _ H _ (rel_start R rs hl hN) ?_
      have strip : ∀ {F' : Hp} {μ' : List Addr} {c : Stt} {σ' : St} {H' : Hp}, Rel K Z F' μ' c σ' H' → Rel K Z F' μ' ⟨[], c.S⟩ [] H' := fun h => rel_strip h
      cases e : b ⟨ds.map .d ++ List.replicate (N.length - k) .no, S⟩ with
      | no => rw [e] at p; exact p.elim
      | ex x c => rw [e] at p; exact fun cls od σ' F' μ' H' l R' rx => p cls od F' μ' H' l (strip R') rx
      | ok fl c =>
        rw [e] at p
        cases fl with
        | nx => exact fun σ' F' μ' H' l R' => p .non F' μ' H' l (strip R') (.v _)
        | rt d => exact fun v σ' F' μ' H' l R' rv => p v F' μ' H' l (strip R') rv
        | bk => exact p.elim
        | ct => exact p.elim
    · exact p.elim
end
/-! ### the end -/
open PySem.Spec PyProof.Rows
/-- a def's code object, its table -/
def cAd (K : PySem.W.Frag) (p : Str × Option Str) : Addr := match K.lookup (He.fAd K p) with
  | some ⟨_, _, .func fd, _⟩ => (match fd.code with
    | .ref c => c
    | _ => 0)
  | _ => 0
def tAdO : Option Obj → Addr
  | some ⟨_, _, .fields vs, _⟩ => (match (vs[11]? : Option Value) with
    | some (.ref P) => P
    | _ => 0)
  | _ => 0
def tAd (K : PySem.W.Frag) (p : Str × Option Str) : Addr := tAdO (K.lookup (cAd K p))
/-- a code object as it should be -/
def codeHdB (K : PySem.W.Frag) (p : Str × Option Str) : Bool := match K.lookup (cAd K p) with
  | some ⟨.type t, _, .fields vs, _⟩ => decide (t = "code") && ((match (vs[11]? : Option Value) with
      | some (.ref P) => decide (P = tAd K p)
      | _ => false) && ((match vs.getD 18 .none with
      | .str _ _ => true
      | _ => false) && ((match vs.getD 7 .none with
      | .int _ _ => true
      | _ => false) && ((match vs.getD 9 .none with
      | .bool _ => true
      | _ => false) && ((match vs.getD 10 .none with
      | .int _ _ => true
      | _ => false) && (!decide (cAd K p = tAd K p) && (K.lookup (tAd K p)).isNone))))))
  | _ => false
theorem codeHdB_ok {K : PySem.W.Frag} {h : Heap} {p : Str × Option Str} (X : K.In h) (t : codeHdB K p = true) : PySem.W.CodeHd h (cAd K p) (tAd K p) ∧ K.lookup (tAd K p) = none := by
  unfold codeHdB at t
  split at t
  · next tt dd vs sl e =>
    obtain ⟨h1, t⟩ := He.ba t
    obtain ⟨h2, t⟩ := He.ba t
    obtain ⟨h3, t⟩ := He.ba t
    obtain ⟨h4, t⟩ := He.ba t
    obtain ⟨h5, t⟩ := He.ba t
    obtain ⟨h6, t⟩ := He.ba t
    obtain ⟨h7, h8⟩ := He.ba t
    have e11 : vs[11]? = some (.ref (tAd K p)) := by
      split at h2
      · next P q => rw [q, of_decide_eq_true h2]
      · cases h2
    obtain ⟨s18, t18, e18⟩ : ∃ s t, vs.getD 18 .none = .str s t := by
      split at h3
      · next a b q => exact ⟨a, b, q⟩
      · cases h3
    obtain ⟨s7, t7, e7⟩ : ∃ s t, vs.getD 7 .none = .int s t := by
      split at h4
      · next a b q => exact ⟨a, b, q⟩
      · cases h4
    obtain ⟨b9, e9⟩ : ∃ b, vs.getD 9 .none = .bool b := by
      split at h5
      · next a q => exact ⟨a, q⟩
      · cases h5
    obtain ⟨s10, t10, e10⟩ : ∃ s t, vs.getD 10 .none = .int s t := by
      split at h6
      · next a b q => exact ⟨a, b, q⟩
      · cases h6
    refine ⟨⟨_, vs, s18, t18, s7, t7, b9, s10, t10, X _ _ e, by rw [of_decide_eq_true h1], rfl, e11, ?_, e18, e7, e9, e10, ?_⟩, Option.isNone_iff_eq_none.mp h8⟩
    · rw [Array.getD_eq_getD_getElem?, e11]
      rfl
    · simpa using h7
  · cases t
/-- a table as it is at first -/
def emptyB : Option Obj → Bool
  | some ⟨.none, none, .fields vs, sl⟩ => vs.size == 0 && sl.size == 0
  | _ => false
theorem emptyB_ok {o : Option Obj} (h : emptyB o = true) : o = some { cls := .none, data := .fields #[] } := by
  unfold emptyB at h
  split at h
  · next vs sl =>
    obtain ⟨h1, h2⟩ := He.ba h
    have e1 : vs = #[] := by simpa using h1
    have e2 : sl = #[] := by simpa using h2
    subst e1
    subst e2
    rfl
  · cases h
/-- what the tables of these defs are -/
def TabsAt (ts : List (Str × Option Str)) (K : PySem.W.Frag) (h : Heap) : Prop := ∀ p ∈ ts, h.get? (tAd K p) = some { cls := .none, data := .fields #[] }
def obGT (fa : List He.Fa) (fn : List He.DefD) (bs : List (PySem.W.Frag → Bool)) (ts : List (Str × Option Str)) (g : Addr → Option Obj) : He.AlD × Bool := asP g fun l => frK (He.frG g l) fun K => (He.obsD fa fn K, (bs.all fun f => f K) && ts.all fun p => emptyB (g (tAd K p)))
theorem obGT_ok {fa : List He.Fa} {fn : List He.DefD} {bs : List (PySem.W.Frag → Bool)} {ts : List (Str × Option Str)} {h : Heap} (e : obGT fa fn bs ts h.get? = (He.valD fn, true)) : ∃ K : PySem.W.Frag, K.In h ∧ He.SaysD fa fn K ∧ (bs.all fun f => f K) = true ∧ TabsAt ts K h := by
  unfold obGT at e
  obtain ⟨l, e2⟩ := asP_eq h.get? fun l => frK (He.frG h.get? l) fun K => (He.obsD fa fn K, (bs.all fun f => f K) && ts.all fun p => emptyB (h.get? (tAd K p)))
  rw [e2, frK_eq] at e
  obtain ⟨e3, e4⟩ := He.ba (congrArg (fun z : He.AlD × Bool => z.2) e)
  exact ⟨_, He.frG_in, congrArg (fun z : He.AlD × Bool => z.1) e, e3, fun p hp => emptyB_ok (List.all_eq_true.mp e4 p hp)⟩
/-- the hook: the defs, the facts, further tests, the tables -/
def hookT (fa : List He.Fa) (fn : List He.DefD) (bs : List (PySem.W.Frag → Bool)) (ts : List (Str × Option Str)) : PySem.W.Hook where
  α := He.AlD × Bool
  obs := fun s => obGT fa fn bs ts s.heap.get?
  val := fun _ => (He.valD fn, true)
  says := fun _ h => ∃ K : PySem.W.Frag, K.In h ∧ He.SaysD fa fn K ∧ (bs.all fun f => f K) = true ∧ TabsAt ts K h
  of := fun _ _ e => obGT_ok e
  keeps := fun _ _ _ ⟨K, hK, c, d, t⟩ k => ⟨K, PySem.W.Frag.In.keeps hK k, c, d, fun p hp => k _ _ (t p hp)⟩
def obT (fa : List He.Fa) (fn : List He.DefD) (bs : List (PySem.W.Frag → Bool)) (ts : List (Str × Option Str)) (s : PySem.W.SharedT) : He.AlD × Bool := obGT fa fn bs ts (HandSHeadRun.getT s)
theorem obT_eq {fa : List He.Fa} {fn : List He.DefD} {bs : List (PySem.W.Frag → Bool)} {ts : List (Str × Option Str)} (s : PySem.W.SharedT) : obT fa fn bs ts s = (hookT fa fn bs ts).obs s.abs := by
  have e : HandSHeadRun.getT s = s.abs.heap.get? := funext (HandSHeadRun.getT_eq s)
  unfold obT
  rw [e]
  rfl
def laB (qual : Str) (p : Str × Option Str) (K : PySem.W.Frag) : Bool := lamB qual K (cAd K p)
section
variable [TabEnv]
/-- the law's def, as the end with tables wants it -/
theorem law_okT {P : Program} {w : World} {K : PySem.W.Frag} {mg : Str → Option Value} {fa : Addr} {x p : Str} {k n : Nat} {g : G} {B : Heap → Prop} (ht : ∀ ns : List Int, ns.length ≤ n → ∃ S, g [scr ns] [] = .ok (.v (.bl true)) S) (hfa : mg x = some (.ref fa)) (d : ∃ f fd, mg x = some (.ref f) ∧ (∀ us : List Value, us.length = 1 → bindArgs fd ⟨us, []⟩ = pure ([p].zip us)) ∧ ∀ base : Heap, K.In base → base.Ns mainGlobals mg → B base → FnOk P w K mg base (L2N.CX P w) k f fd [p] (spG K g)) :
    ∃ fd : FuncData, (∀ (s : Shared) (v : Value), BindsTo s fd ⟨[v], []⟩ [(p, v)]) ∧ ∀ base : Heap, K.In base → base.Ns mainGlobals mg → B base → FnOk P w K mg base (L2N.CX P w) k fa fd [p] (spLaw n K) := by
  obtain ⟨f, fd, h1, h2, h3⟩ := d
  have e := hfa.symm.trans h1
  cases e
  exact ⟨fd, fun s v => .of_eq (h2 [v] rfl), fun base a b c => (h3 base a b c).imp (law_sp ht)⟩
end
/-! ### small looks -/
def lamFreeB (sc sc0 : Scope) : Bool := sc.names.all fun y => !decide (y.2 = .free) || (decide (sc0.names.lookup y.1 = some .cell) || decide (sc0.names.lookup y.1 = some .free))
theorem lamfree_by {sc sc0 : Scope} (h : lamFreeB sc sc0 = true) : ∀ y ∈ sc.names, y.2 = .free → sc0.names.lookup y.1 = some .cell ∨ sc0.names.lookup y.1 = some .free := fun y hy e => by
  have := List.all_eq_true.mp h y hy
  rw [decide_eq_true e, Bool.not_true, Bool.false_or, Bool.or_eq_true, decide_eq_true_eq, decide_eq_true_eq] at this
  exact this
def lamFrB (fr : List Str) (sc : Scope) : Bool := fr.all fun y => decide ((y, NameKind.free) ∈ sc.names)
theorem lamfr_by {fr : List Str} {sc : Scope} (h : lamFrB fr sc = true) : ∀ y ∈ fr, (y, NameKind.free) ∈ sc.names := fun y hy => of_decide_eq_true (List.all_eq_true.mp h y hy)
/-- the pairs of code objects and tables -/
def tabCs (ts : List (Str × Option Str)) (K : PySem.W.Frag) : List (Addr × Addr) := ts.map fun p => (cAd K p, tAd K p)
theorem tabCs_ok {ts : List (Str × Option Str)} {K : PySem.W.Frag} {h : Heap} (X : K.In h) (t : TabsAt ts K h) (c : (ts.all fun p => codeHdB K p) = true) : (∀ p ∈ tabCs ts K, h.get? p.2 = some { cls := .none, data := .fields #[] }) ∧ (∀ p ∈ tabCs ts K, K.lookup p.2 = none) ∧ ∀ p ∈ tabCs ts K, PySem.W.CodeHd h p.1 p.2 := by
  have key : ∀ q ∈ tabCs ts K, ∃ p ∈ ts, q = (cAd K p, tAd K p) := fun q hq => by
    obtain ⟨p, hp, e⟩ := List.mem_map.mp hq
    exact ⟨p, hp, e.symm⟩
  refine ⟨fun q hq => ?_, fun q hq => ?_, fun q hq => ?_⟩ <;> obtain ⟨p, hp, rfl⟩ := key q hq
  · exact t p hp
  · exact (codeHdB_ok X (List.all_eq_true.mp c p hp)).2
  · exact (codeHdB_ok X (List.all_eq_true.mp c p hp)).1
def tsB (ts : List (Str × Option Str)) (K : PySem.W.Frag) : Bool := ts.all fun p => codeHdB K p
def ndTB (ts : List (Str × Option Str)) (K : PySem.W.Frag) : Bool := decide ((ts.map fun p => tAd K p).Nodup)
theorem tabs_first {T : List (Addr × Str)} {H : Hp} {cs : List (Addr × Addr)} (e : T.map (·.1) = cs.map (·.2)) (h : ∀ p ∈ cs, H p.2 = some (.tbl #[])) : LamX.Tabs T H := fun p hp => by
  have : p.1 ∈ cs.map (·.2) := by rw [← e]; exact List.mem_map_of_mem hp
  obtain ⟨q, hq, eq⟩ := List.mem_map.mp this
  rw [← eq]
  exact LamX.TabS.nil (h q hq)
end My

set_option Elab.async false
set_option linter.all false
set_option maxRecDepth 100000
set_option maxHeartbeats 4000000
/-! T10: the halls that the laws draw, as plain functions of the script. -/
namespace My
open PySem L2
def mixed (c k : Int) : Int := ((c.fmod 1000003 + 7) * (31 * k * k + 48271) + c.fdiv 1000003 * 16807).fmod 2147483629
def qzI (c j : Int) : Nat := ([113, 122, 106, 118] : List Nat).getD ((c.fdiv (49 + 13 * j)).fmod 4).toNat 0
def nsz (c : Int) : Int := 2 + c.fmod 7
def npos (c : Int) : Int := (c.fdiv 7).fmod (nsz c)
def nrest (c : Int) : List Nat := (List.range (nsz c).toNat).map fun j => qzI c (0 + (j : Nat))
def nlet (c : Int) (k : Nat) : Nat := 97 + ((c.fdiv 17 + (k : Nat)).fmod 26).toNat
def nm (c : Int) (k : Nat) : Str := Txt.join ("" : Str) (((nrest c).set (npos c).toNat (nlet c k)).map ch)
theorem nsz_bd (c : Int) : 2 ≤ nsz c ∧ nsz c ≤ 8 := by
  have := fmod_bd (c := c) (m := 7) (by decide)
  unfold nsz
  omega
theorem npos_bd (c : Int) : 0 ≤ npos c ∧ npos c < nsz c := fmod_bd (by have := nsz_bd c; omega)
theorem nrest_len (c : Int) : (nrest c).length = (nsz c).toNat := by simp [nrest]
theorem nm_ne (c : Int) {i j : Nat} (hi : i < 26) (hj : j < 26) (h : i ≠ j) : nm c i ≠ nm c j := fun e => by
  have e2 : (nm c i).cps.toList = (nm c j).cps.toList := by rw [e]
  unfold nm at e2
  rw [join_ch, join_ch] at e2
  have hp := npos_bd c
  have hl := nrest_len c
  have e3 : ((nrest c).set (npos c).toNat (nlet c i))[(npos c).toNat]? = ((nrest c).set (npos c).toNat (nlet c j))[(npos c).toNat]? := by rw [e2]
  rw [List.getElem?_set, List.getElem?_set, if_pos rfl, if_pos rfl, if_pos (by omega), if_pos (by omega)] at e3
  have e4 : nlet c i = nlet c j := Option.some.inj e3
  unfold nlet at e4
  rw [Int.fmod_eq_emod_of_nonneg _ (by decide), Int.fmod_eq_emod_of_nonneg _ (by decide)] at e4
  omega

def nms (c : Int) : List Str := (List.range 22).map (nm c)
theorem nms_len (c : Int) : (nms c).length = 22 := by simp [nms]
def rowT (s : Sta) : D := .tup s.row
theorem row_0 (s : Sta) : atI s.row 0 = some (sD s.kind) := by cases s <;> rfl
theorem row_1 (s : Sta) : atI s.row 1 = some (sD s.name) := by cases s <;> rfl
/-- the i-th of some, the first one of a pair of text otherwise -/
def pk (gs : List Str) (i : Int) : Str := gs.getD i.toNat (Str.ofString "")
theorem pk_at {gs : List Str} {i : Int} (h0 : 0 ≤ i) (h : i < gs.length) : atI (Ss gs) i = some (sD (pk gs i)) := atI_map (f := fun p => D.v (V.str p)) h0 h
theorem Ss_len (ts : List Str) : (Ss ts).length = ts.length := List.length_map _
theorem rngL (n : Nat) : (rngD 0 n).length = n := by simp [rngD]
theorem rng_at {lo : Int} {n j : Nat} {d : D} (h : (rngD lo n)[j]? = some d) : d = .v (.int (lo + (j : Nat))) ∧ j < n := by
  unfold rngD at h
  rw [List.getElem?_map] at h
  cases q : (List.range n)[j]? with
  | none => rw [q] at h; cases h
  | some x =>
    rw [q] at h
    obtain ⟨h1, h2⟩ := List.getElem?_eq_some_iff.mp q
    rw [List.length_range] at h1
    rw [List.getElem_range] at h2
    cases h
    exact ⟨by rw [h2], h1⟩
theorem itF_invL {dg : D → M Unit} {db : M Fl} {Inv : Nat → Stt → Prop} (ds : List D) (c : Stt) (h : Inv 0 c) (t : ∀ (j : Nat) (d : D) (c : Stt), ds[j]? = some d → Inv j c → ∃ c1, dg d c = .ok () c1 ∧ ∃ c2, db c1 = .ok .nx c2 ∧ Inv (j + 1) c2) : ∃ c', itF dg db ds c = .ok .nx c' ∧ Inv ds.length c' := by
  obtain ⟨c', e, q⟩ := itF_inv (Inv := Inv) ds 0 c h fun j d c hj hc => by
    rw [Nat.zero_add] at hc
    obtain ⟨c1, e1, c2, e2, h2⟩ := t j d c hj hc
    exact ⟨c1, e1, .nx, c2, e2, .inl rfl, by rw [Nat.zero_add]; exact h2⟩
  exact ⟨c', e, by rwa [Nat.zero_add] at q⟩
/-- a comprehension over range -/
theorem itL_rng {dg : D → M Unit} {de : M D} {vs : List Nat} {r0 w : List Slot} {S : List Cell} {f : Int → D} {n : Nat} (hn : n ≤ 1000000) (t : ∀ z : Int, 0 ≤ z → z < n → ∃ c1, dg (.v (.int z)) ⟨w, S⟩ = .ok () c1 ∧ wipeD c1.r vs = w ∧ c1.S = S ∧ ∃ c3, de c1 = .ok (f z) c3 ∧ wipeD c3.r vs = w ∧ c3.S = S) (c : Stt) (hw : wipeD c.r vs = w) (hS : c.S = S) :
    itL dg (M.pure true) de vs r0 (rngD 0 n) [] c = .ok ((List.range n).map fun j => f (0 + (j : Nat))) ⟨w, S⟩ := by
  have h := itL_map (dg := dg) (dt := M.pure true) (de := de) (vs := vs) (r0 := r0) (w := w) (S := S) (p := fun _ => true) (f := fun d => match d with | .v (.int j) => f j | _ => d) (rngD 0 n) [] c hw hS (by rw [rngL]; simpa using hn) (fun d hd => by
    unfold rngD at hd
    obtain ⟨k, hk, rfl⟩ := List.mem_map.mp hd
    have hk8 := List.mem_range.mp hk
    obtain ⟨c1, e1, w1, s1, c3, e3, w3, s3⟩ := t (0 + ((k : Nat) : Int)) (by omega) (by omega)
    exact ⟨c1, e1, c1, rfl, w1, s1, fun _ => ⟨c3, e3, w3, s3⟩⟩)
  rw [h, List.filter_eq_self.mpr (fun _ _ => rfl), List.nil_append]
  unfold rngD
  rw [List.map_map]
  rfl
def numsD (f : Int → Int) (n : Nat) : List Int := (List.range n).map fun j => f (0 + (j : Nat))
theorem numsD_I (f : Int → Int) (n : Nat) : ((List.range n).map fun j => D.v (V.int (f (0 + (j : Nat))))) = (numsD f n).map I := by
  unfold numsD
  rw [List.map_map]
  rfl
theorem numsD_len (f : Int → Int) (n : Nat) : (numsD f n).length = n := by simp [numsD]
/-! a desk, a door, a block -/
/-- a comprehension over encoded things, with something that stays -/
theorem itL_gen {α : Type} {enc : α → D} {p : α → Bool} {f : α → D} {Inv : List Slot → Prop} {dg : D → M Unit} {dt : M Bool} {de : M D} {vs : List Nat} {r0 : List Slot} {S : List Cell} : ∀ (xs : List α) (acc : List D) (c : Stt), Inv (wipeD c.r vs) → c.S = S → acc.length + xs.length ≤ 1000000 →
    (∀ x ∈ xs, ∀ w, Inv w → ∃ c1, dg (enc x) ⟨w, S⟩ = .ok () c1 ∧ ∃ c2, dt c1 = .ok (p x) c2 ∧ c2.S = S ∧ (p x = false → Inv (wipeD c2.r vs)) ∧ (p x = true → ∃ c3, de c2 = .ok (f x) c3 ∧ Inv (wipeD c3.r vs) ∧ c3.S = S)) →
    ∃ w, Inv w ∧ itL dg dt de vs r0 (xs.map enc) acc c = .ok (acc ++ (xs.filter p).map f) ⟨w, S⟩
  | [], acc, c, hw, hS, _, _ => ⟨_, hw, by
    rw [List.map_nil]
    unfold itL
    rw [hS]
    simp⟩
  | x :: xs, acc, c, hw, hS, hz, t => by
    obtain ⟨c1, e1, c2, e2, s2, k0, k1⟩ := t x List.mem_cons_self _ hw
    have hz2 : acc.length + xs.length + 1 ≤ 1000000 := by simpa [Nat.add_assoc] using hz
    rw [List.map_cons]
    unfold itL M.bind M.ne
    rw [hS, e1]
    dsimp only
    rw [e2]
    dsimp only
    cases hp : p x with
    | false =>
      obtain ⟨w, h1, h2⟩ := itL_gen (Inv := Inv) (enc := enc) (p := p) (f := f) (dg := dg) (dt := dt) (de := de) (vs := vs) (r0 := r0) (S := S) xs acc c2 (k0 hp) s2 (by omega) fun y hy => t y (List.mem_cons_of_mem _ hy)
      refine ⟨w, h1, ?_⟩
      rw [List.filter_cons, hp]
      simpa using h2
    | true =>
      obtain ⟨c3, e3, w3, s3⟩ := k1 hp
      obtain ⟨w, h1, h2⟩ := itL_gen (Inv := Inv) (enc := enc) (p := p) (f := f) (dg := dg) (dt := dt) (de := de) (vs := vs) (r0 := r0) (S := S) xs (acc ++ [f x]) c3 w3 s3 (by rw [List.length_append]; simp; omega) fun y hy => t y (List.mem_cons_of_mem _ hy)
      refine ⟨w, h1, ?_⟩
      rw [if_pos rfl, e3]
      dsimp only
      rw [if_pos (by omega), h2, List.append_assoc, List.filter_cons, hp]
      rfl
theorem itL_enc {α : Type} {enc : α → D} {p : α → Bool} {f : α → D} {w : List Slot} {dg : D → M Unit} {dt : M Bool} {de : M D} {vs : List Nat} {r0 : List Slot} {S : List Cell} (xs : List α) (c : Stt) (hw : wipeD c.r vs = w) (hS : c.S = S) (hz : xs.length ≤ 1000000)
    (t : ∀ x ∈ xs, ∃ c1, dg (enc x) ⟨w, S⟩ = .ok () c1 ∧ ∃ c2, dt c1 = .ok (p x) c2 ∧ c2.S = S ∧ (p x = false → wipeD c2.r vs = w) ∧ (p x = true → ∃ c3, de c2 = .ok (f x) c3 ∧ wipeD c3.r vs = w ∧ c3.S = S)) :
    itL dg dt de vs r0 (xs.map enc) [] c = .ok ((xs.filter p).map f) ⟨w, S⟩ := by
  obtain ⟨w', rfl, e⟩ := itL_gen (Inv := fun z => z = w) (enc := enc) (p := p) (f := f) (dg := dg) (dt := dt) (de := de) (vs := vs) (r0 := r0) (S := S) xs [] c hw hS (by simpa using hz) (fun x hx w' hw' => by subst hw'; exact t x hx)
  rw [e, List.nil_append]
theorem cutL_from {α : Type} (xs : List α) (a : Int) (h0 : 0 ≤ a) (h : a ≤ xs.length) : cutL xs (some a) none = xs.drop a.toNat := by
  unfold cutL HT.sIx
  have h1 : ¬ (a < 0) := by omega
  have e1 : min a.toNat xs.length = a.toNat := by omega
  simp only [h1, if_false, e1]
  rw [List.take_of_length_le (by rw [List.length_drop]; omega)]
theorem cutL_to {α : Type} (xs : List α) (a : Int) (h0 : 0 ≤ a) (h : a ≤ xs.length) : cutL xs none (some a) = xs.take a.toNat := by
  unfold cutL HT.sIx
  have h1 : ¬ (a < 0) := by omega
  have e1 : min a.toNat xs.length = a.toNat := by omega
  simp only [h1, if_false, e1, List.drop_zero, Nat.sub_zero]
/-! the hall -/
end My

set_option Elab.async false
set_option linter.all false
set_option maxRecDepth 100000
set_option maxHeartbeats 4000000
/-! T11: plain data as operands; changes of a hall. -/
namespace My
open PySem L2

/-! plain data -/
def Pyd (n : Nat) (d : D) : Prop := ∃ p, pyD d = some p ∧ p.depth ≤ n ∧ p.plain = true
theorem pyd_int {n : Nat} {i : Int} : Pyd n (.v (.int i)) := ⟨_, rfl, Nat.zero_le _, rfl⟩
def PydA (n : Nat) (ds : List D) : Prop := ∀ d ∈ ds, Pyd n d
theorem pydA_nil {n : Nat} : PydA n [] := fun _ h => absurd h List.not_mem_nil
theorem pydA_cons {n : Nat} {d : D} {ds : List D} (h : Pyd n d) (t : PydA n ds) : PydA n (d :: ds) := fun x hx => by
  rcases List.mem_cons.mp hx with rfl | hx
  · exact h
  · exact t x hx
theorem pydA_py {n : Nat} : ∀ {ds : List D}, PydA n ds → ∃ ps, pyDs ds = some ps ∧ PyData.depthAll ps ≤ n ∧ PyData.plainAll ps = true ∧ ps.length = ds.length
  | [], _ => ⟨[], rfl, Nat.zero_le _, rfl, rfl⟩
  | d :: ds, h => by
    obtain ⟨p, e1, h1, h2⟩ := h d List.mem_cons_self
    obtain ⟨ps, e2, h3, h4, h5⟩ := pydA_py fun x hx => h x (List.mem_cons_of_mem _ hx)
    refine ⟨p :: ps, ?_, ?_, ?_, by simp [h5]⟩
    · simp only [pyDs, e1, e2]
    · simp only [PyData.depthAll]
      omega
    · simp only [PyData.plainAll, h2, h4, Bool.and_self]
theorem pyd_tup {n : Nat} {ds : List D} (h : PydA n ds) : Pyd (n + 1) (.tup ds) := by
  obtain ⟨ps, e, h1, h2, _⟩ := pydA_py h
  refine ⟨.tuple ps, ?_, ?_, by simpa [PyData.plain] using h2⟩
  · show (pyDs ds).map PyData.tuple = _
    rw [e]
    rfl
  · simp only [PyData.depth]
    omega
theorem pydA_map {α : Type} {n : Nat} {f : α → D} (h : ∀ a, Pyd n (f a)) (xs : List α) : PydA n (xs.map f) := fun d hd => by
  obtain ⟨a, _, rfl⟩ := List.mem_map.mp hd
  exact h a
theorem eqv_nil (ps : List PyData) : PyData.eqv (.list ps) (.list []) = ps.isEmpty := by
  cases ps <;> simp [PyData.eqv, PyData.eqvAll]
theorem gEq_nil {neg : Bool} {l : List D} {c : Stt} (h : PydA 9 l) : gEq neg (.d (.lst l)) (.d (.lst [])) c = .ok (.v (.bl (if neg then !l.isEmpty else l.isEmpty))) c := by
  obtain ⟨ps, e, h1, _, h5⟩ := pydA_py h
  have p1 : pyO c (.d (.lst l)) = some (.list ps) := by
    show (pyDs l).map PyData.list = _
    rw [e]
    rfl
  have p2 : pyO c (.d (.lst [])) = some (.list []) := rfl
  have ee : ps.isEmpty = l.isEmpty := by cases ps <;> cases l <;> simp at h5 ⊢
  have := gEq_of (neg := neg) (k := if neg then !l.isEmpty else l.isEmpty) p1 p2
  unfold gEq
  rw [p1, p2]
  dsimp only
  rw [if_pos (by simp only [PyData.depth]; omega), eqv_nil, ee]
/-! things that may be handed in for a change -/
inductive At : D → Prop
  | non : At (.v .non)
  | bl (b : Bool) : At (.v (.bl b))
  | int (i : Int) : At (.v (.int i))
  | str (s : Str) : At (.v (.str s))
inductive El : D → Prop
  | at {d : D} (h : At d) : El d
  | tup {ds : List D} (h : ∀ d ∈ ds, At d) : El (.tup ds)
  | lst {ds : List D} (h : ∀ d ∈ ds, At d) : El (.lst ds)
inductive Odd (S : List Cell) : D → Prop
  | at {d : D} (h : At d) : Odd S d
  | tup {ds : List D} (h : ∀ d ∈ ds, El d) : Odd S (.tup ds)
  | lst {ds : List D} (h : ∀ d ∈ ds, El d) : Odd S (.lst ds)
  | dct {n : Nat} (h : S[n]? = some (.dct [])) : Odd S (.loc n)
def called (hs : List Sta) (n : Str) : Option Sta := hs.find? fun s => decide (s.name = n)
/-- a change as the laws draw it -/
def ChgD (d : D) : Prop := ∃ w n args, d = .tup (sD w :: sD n :: args) ∧ 1 ≤ args.length ∧ args.length ≤ 2 ∧ ∀ a ∈ args, El a
theorem ChgD.odd {d : D} (S : List Cell) (h : ChgD d) : Odd S d := by
  obtain ⟨w, n, args, rfl, _, _, ha⟩ := h
  refine .tup fun x hx => ?_
  rcases List.mem_cons.mp hx with rfl | hx
  · exact .at (.str _)
  rcases List.mem_cons.mp hx with rfl | hx
  · exact .at (.str _)
  · exact ha x hx
theorem Odd.mono {S : List Cell} {d : D} (h : Odd S d) (T : List Cell) : Odd (S ++ T) d := by
  cases h with
  | «at» h => exact .at h
  | tup h => exact .tup h
  | lst h => exact .lst h
  | dct h => exact .dct (by rw [List.getElem?_append_left (List.getElem?_eq_some_iff.mp h).1]; exact h)
theorem El.i (i : Int) : El (.v (.int i)) := .at (.int i)
theorem El.s (i : Str) : El (sD i) := .at (.str i)
inductive PairD (S : List Cell) : D → Prop
  | at {d : D} (h : At d) : PairD S d
  | lst (ds : List D) : PairD S (.lst ds)
  | tup {ds : List D} (h : ds.length = 2 → ∃ a b, ds = [a, b] ∧ El a ∧ Odd S b) : PairD S (.tup ds)
def PairG (d : D) : Prop := ∃ t ch, d = .tup [.v (.int t), ch] ∧ ChgD ch ∧ 0 ≤ t ∧ t ≤ 999
theorem PairG.pd {d : D} (S : List Cell) (h : PairG d) : PairD S d := by
  obtain ⟨t, ch, rfl, hc, _⟩ := h
  exact .tup fun _ => ⟨_, _, rfl, El.i _, hc.odd S⟩
end My

set_option Elab.async false
set_option linter.all false
set_option maxRecDepth 100000
set_option maxHeartbeats 4000000
/-! T30: searching a graph: three ways, one answer. -/
namespace My
open PySem L2
section
open Classical
variable {α β : Type}
/-- what is reached from ws -/
inductive Rc (succ : α → List α) (ws : List α) : α → Prop where
  | base {x : α} (h : x ∈ ws) : Rc succ ws x
  | step {x y : α} (h : Rc succ ws x) (k : y ∈ succ x) : Rc succ ws y
noncomputable def unsN (U seen : List α) : Nat := (U.filter fun u => decide (u ∉ seen)).length
/-! ### the stack -/
structure DInv (succ : α → List α) (mk : α → Option β) (ws U : List α) (B : Nat) (seen wait : List α) (wr : List β) : Prop where
  nd : seen.Nodup
  rs : ∀ x ∈ seen, Rc succ ws x
  rw : ∀ x ∈ wait, Rc succ ws x
  st : ∀ x ∈ ws, x ∈ seen ∨ x ∈ wait
  cl : ∀ x ∈ seen, ∀ y ∈ succ x, y ∈ seen ∨ y ∈ wait
  mk1 : ∀ b ∈ wr, ∃ x ∈ seen, mk x = some b
  mk2 : ∀ x ∈ seen, ∀ b, mk x = some b → b ∈ wr
  wl : wait.length + B * unsN U seen ≤ 900000
  wn : wr.length ≤ seen.length
/-! ### the queue -/
structure BInv (succ : α → List α) (mk : α → Option β) (ws : List α) (P : List α) (i : Nat) (wr : List β) : Prop where
  nd : P.Nodup
  rs : ∀ x ∈ P, Rc succ ws x
  st : ∀ x ∈ ws, x ∈ P
  cl : ∀ j x, j < i → P[j]? = some x → ∀ y ∈ succ x, y ∈ P
  mk1 : ∀ b ∈ wr, ∃ x ∈ P, mk x = some b
  mk2 : ∀ j x, j < i → P[j]? = some x → ∀ b, mk x = some b → b ∈ wr
  wn : wr.length ≤ i
  il : i ≤ P.length
/-! ### level by level -/
structure LInv (succ : α → List α) (ws met edge : List α) (B : Nat) : Prop where
  p1 : ∀ x ∈ met, Rc succ ws x
  p2 : ∀ x ∈ edge, ∀ y ∈ succ x, Rc succ ws y
  p3 : ∀ x ∈ met, x ∈ edge ∨ ∀ y ∈ succ x, y ∈ met
  p4 : ∀ y ∈ ws, y ∈ met ∨ ∃ x ∈ edge, y ∈ succ x
  ct : ∀ x, met.count x ≤ B
end
end My

set_option Elab.async false
set_option linter.all false
set_option maxRecDepth 100000
set_option maxHeartbeats 4000000
/-! T31: what a hall wants, plainly. -/
namespace My
open PySem PySem.Spec PyProof.Rows L2
def Sta.thens : Sta → List Str
  | .pool _ _ => []
  | .doorA _ _ _ t => [t]
  | .doorD _ _ _ _ _ _ _ t => [t]
  | .way _ _ t => [t]
  | .desk _ _ _ _ _ t => [t]
  | .opens _ _ _ t => [t]
  | .below _ _ _ t => [t]
  | .fork _ _ t ts => t :: ts
  | .lend _ _ t => [t]
  | .give _ _ t => [t]
  | .exit _ => []
def Sta.isPool : Sta → Bool
  | .pool _ _ => true
  | _ => false
def Sta.isDoor : Sta → Bool
  | .doorA _ _ _ _ => true
  | .doorD _ _ _ _ _ _ _ _ => true
  | _ => false
/-- how many come -/
def Sta.come : Sta → Int
  | .doorA _ _ ts _ => ts.length
  | .doorD _ _ _ b _ _ _ _ => b
  | _ => 0
/-- the names that it tells of others: whether of a pool -/
def Sta.named : Sta → List (Str × Bool)
  | .below _ _ o t => [(o, false), (t, false)]
  | .lend _ p t => [(p, true), (t, false)]
  | .give _ p t => [(p, true), (t, false)]
  | s => s.thens.map fun t => (t, false)
inductive Due where
  | fine
  | name (w : Str)
  | number (w : Str)
  | many
  | door
  | ring (w : Str)
  | loan (w : Str)
def badName (hs : List Sta) (p : Str × Bool) : Bool := match called hs p.1 with
  | none => true
  | some s => if p.2 then !s.isPool else s.isPool || s.isDoor
def namesDue (hs : List Sta) : Option Str := ((hs.flatMap Sta.named).find? (badName hs)).map (·.1)
/-! names -/
theorem names_ok0 {hs : List Sta} (h : namesDue hs = none) : ∀ s ∈ hs, ∀ p ∈ s.named, badName hs p = false := fun s hs' p hp => by
  unfold namesDue at h
  rw [Option.map_eq_none_iff, List.find?_eq_none] at h
  have := h p (List.mem_flatMap.mpr ⟨s, hs', hp⟩)
  simpa using this
/-! sorted texts -/
/-! what is held: parts of the pools, in order -/
def poolsIn (hs : List Sta) : List Str := (hs.filter Sta.isPool).map Sta.name
def HeldC (hs : List Sta) (h : List Str) : Prop := ∃ p, h = (sortS (poolsIn hs)).filter p
structure MetL (hs : List Sta) (x : Str × List Str) : Prop where
  c : ∃ s, s ∈ hs ∧ called hs x.1 = some s
  h : HeldC hs x.2
/-! the three ways -/
end My

set_option Elab.async false
set_option linter.all false
set_option maxRecDepth 100000
set_option maxHeartbeats 4000000
/-! T32: halls in dicts of the store; reckoning with images of truths. -/
namespace My
open PySem L2
/-! dicts -/
/-! cells -/
/-! loops -/
/-! three cells -/
/-! truths -/
/-- told things of small size -/
def Sta.small : Sta → Prop
  | .doorA _ _ ts _ => ts.length ≤ 1000
  | .desk _ _ ts _ rs _ => ts.length ≤ 1000 ∧ rs.length ≤ 1000
  | .fork _ _ _ ts => ts.length ≤ 19
  | _ => True
structure HallS (hs : List Sta) : Prop where
  l : hs.length ≤ 1000
  s : ∀ s ∈ hs, s.small
/-! numbers -/
end My

set_option Elab.async false
set_option linter.all false
set_option maxRecDepth 100000
set_option maxHeartbeats 4000000
/-! T60: the best of some by pairs of whole numbers; who is first of those who wait. -/
namespace My
open PySem L2
def pairD (p : Int × Int) : D := .tup [.v (.int p.1), .v (.int p.2)]
def pairLt (a b : Int × Int) : Bool := if a.1 = b.1 then decide (a.2 < b.2) else decide (a.1 < b.1)
theorem pairs_lt (a b : Int × Int) : PySem.W.dataLt (PySem.W.Datum.toD a) (PySem.W.Datum.toD b) = pairLt a b := by
  rw [PySem.W.DatumOrd.lt_eq]
  rfl
theorem pyD_pair (p : Int × Int) : pyD (pairD p) = some (PySem.W.Datum.toD p) := rfl
theorem someP_pair (p : Int × Int) : someP (PySem.W.Datum.toD p) = true := rfl
def bestP (mx : Bool) (b : D × (Int × Int)) (l : List (D × (Int × Int))) : D × (Int × Int) := l.foldl (fun b n => if (if mx then pairLt b.2 n.2 else pairLt n.2 b.2) = true then n else b) b
theorem bestK_pairs (mx : Bool) : ∀ (l : List (D × (Int × Int))) (b : D × (Int × Int)), bestK mx (b.1, PySem.W.Datum.toD b.2) (l.map fun p => (p.1, pairD p.2)) = some (bestP mx b l).1
  | [], b => rfl
  | n :: l, b => by
    rw [List.map_cons]
    unfold bestK
    dsimp only
    rw [pyD_pair]
    dsimp only
    have al : PySem.W.alike (PySem.W.Datum.toD n.2) (PySem.W.Datum.toD b.2) = true := PySem.W.DatumOrd.alike _ _
    have dz : (PySem.W.Datum.toD n.2 : PyData).depth ≤ 64 := Nat.le_trans (PySem.W.Datum.depth_le n.2) (by decide)
    unfold stepK
    dsimp only
    rw [if_pos ⟨al, someP_pair _, dz⟩]
    dsimp only
    rw [pairs_lt, pairs_lt]
    have e : bestP mx b (n :: l) = bestP mx (if (if mx then pairLt b.2 n.2 else pairLt n.2 b.2) = true then n else b) l := rfl
    rw [e]
    generalize (if mx = true then pairLt b.2 n.2 else pairLt n.2 b.2) = t
    cases t with
    | true => exact bestK_pairs mx l n
    | false => exact bestK_pairs mx l b
theorem mapK_const {g : G} {ws : List D} {f : D → D} {S : List Cell} : ∀ {ds : List D}, (∀ d ∈ ds, g (d :: ws) S = .ok (f d) S) → mapK g ws ds S = some (ds.map f, S)
  | [], _ => rfl
  | d :: ds, h => by
    unfold mapK
    rw [h d List.mem_cons_self]
    dsimp only
    rw [mapK_const fun x hx => h x (List.mem_cons_of_mem _ hx)]
    rfl
/-- the first one of the greatest -/
def mxG (g : Int → Int) (b : Int) (l : List Int) : Int := l.foldl (fun b y => if g b < g y then y else b) b
theorem mxG_mem (g : Int → Int) : ∀ (l : List Int) (b : Int), mxG g b l = b ∨ mxG g b l ∈ l
  | [], b => .inl rfl
  | y :: l, b => by
    have e : mxG g b (y :: l) = mxG g (if g b < g y then y else b) l := rfl
    rw [e]
    split
    · rcases mxG_mem g l y with h | h
      · exact .inr (by rw [h]; exact List.mem_cons_self)
      · exact .inr (List.mem_cons_of_mem _ h)
    · rcases mxG_mem g l b with h | h
      · exact .inl h
      · exact .inr (List.mem_cons_of_mem _ h)
theorem best_mxG (g : Int → Int) (ix : Int → Nat) : ∀ (l : List Int) (b : Int), (∀ y ∈ l, ix b < ix y) → l.Pairwise (fun x y => ix x < ix y) →
    bestP true (D.v (.int b), (g b, 0 - (ix b : Int))) (l.map fun y => (D.v (.int y), (g y, 0 - (ix y : Int)))) = (D.v (.int (mxG g b l)), (g (mxG g b l), 0 - (ix (mxG g b l) : Int)))
  | [], b, _, _ => rfl
  | y :: l, b, h, pw => by
    obtain ⟨p1, p2⟩ := List.pairwise_cons.mp pw
    have hy := h y List.mem_cons_self
    have e : mxG g b (y :: l) = mxG g (if g b < g y then y else b) l := rfl
    rw [List.map_cons, e]
    have lt : (pairLt (g b, 0 - (ix b : Int)) (g y, 0 - (ix y : Int)) = true) ↔ g b < g y := by
      unfold pairLt
      dsimp only
      split
      · next q =>
        rw [decide_eq_true_eq]
        constructor <;> intro z <;> omega
      · rw [decide_eq_true_eq]
    have e2 : bestP true (D.v (.int b), (g b, 0 - (ix b : Int))) ((D.v (.int y), (g y, 0 - (ix y : Int))) :: l.map fun y => (D.v (.int y), (g y, 0 - (ix y : Int)))) = bestP true (if pairLt (g b, 0 - (ix b : Int)) (g y, 0 - (ix y : Int)) = true then (D.v (.int y), (g y, 0 - (ix y : Int))) else (D.v (.int b), (g b, 0 - (ix b : Int)))) (l.map fun y => (D.v (.int y), (g y, 0 - (ix y : Int)))) := rfl
    rw [e2]
    by_cases q : g b < g y
    · rw [if_pos (lt.mpr q), if_pos q]
      exact best_mxG g ix l y p1 p2
    · rw [if_neg (fun z => q (lt.mp z)), if_neg q]
      exact best_mxG g ix l b (fun z hz => h z (List.mem_cons_of_mem _ hz)) p2
theorem idx_ne {a y : Int} {w : List Int} (h : a ≠ y) : (a :: w).idxOf y = w.idxOf y + 1 := by
  have e : (a == y) = false := beq_eq_false_iff_ne.mpr h
  rw [List.idxOf_cons, e]
  rfl
theorem idx_pw : ∀ {w : List Int}, w.Nodup → w.Pairwise fun x y => w.idxOf x < w.idxOf y
  | [], _ => List.Pairwise.nil
  | a :: w, nd => by
    obtain ⟨h1, h2⟩ := List.nodup_cons.mp nd
    refine List.pairwise_cons.mpr ⟨fun y hy => ?_, ?_⟩
    · have : a ≠ y := fun z => by subst z; exact h1 hy
      rw [List.idxOf_cons_self, idx_ne this]
      omega
    · refine (idx_pw h2).imp_of_mem fun {x y} hx hy h => ?_
      have n1 : a ≠ x := fun z => by subst z; exact h1 hx
      have n2 : a ≠ y := fun z => by subst z; exact h1 hy
      rw [idx_ne n1, idx_ne n2]
      omega
theorem idxV_ints (y : Int) : ∀ {w : List Int}, y ∈ w → idxV (.int y) (w.map V.int) = some (w.idxOf y)
  | a :: w, h => by
    rw [List.map_cons]
    unfold idxV
    by_cases e : a = y
    · subst e
      have : eqV (V.int a) (.int a) = true := by simp [eqV]
      rw [if_pos this, List.idxOf_cons_self]
    · have : ¬ eqV (V.int a) (.int y) = true := by simp [eqV, e]
      rw [if_neg this, idx_ne e]
      have hy : y ∈ w := by
        rcases List.mem_cons.mp h with q | q
        · exact absurd q.symm e
        · exact q
      rw [idxV_ints y hy]
      rfl
/-- none is ahead of it -/
theorem mxG_first (g : Int → Int) (ix : Int → Nat) : ∀ (l : List Int) (b n : Int), (∀ y ∈ l, ix b < ix y) → l.Pairwise (fun x y => ix x < ix y) → (n = b ∨ n ∈ l) →
    (mxG g b l = n ↔ ∀ y, y = b ∨ y ∈ l → y ≠ n → ¬ (if g y ≠ g n then g n < g y else ix y < ix n))
  | [], b, n, _, _, hn => by
    have e : n = b := by
      rcases hn with h | h
      · exact h
      · exact absurd h List.not_mem_nil
    subst e
    constructor
    · intro _ y hy ne
      rcases hy with h | h
      · exact absurd h ne
      · exact absurd h List.not_mem_nil
    · intro _
      rfl
  | x :: l, b, n, h, pw, hn => by
    obtain ⟨p1, p2⟩ := List.pairwise_cons.mp pw
    have hx := h x List.mem_cons_self
    have e : mxG g b (x :: l) = mxG g (if g b < g x then x else b) l := rfl
    rw [e]
    have hb : ∀ y ∈ l, ix b < ix y := fun z hz => h z (List.mem_cons_of_mem _ hz)
    by_cases q : g b < g x
    · rw [if_pos q]
      by_cases nb : n = b
      · -- b is not it
        have ne : mxG g x l ≠ n := fun z => by
          rcases mxG_mem g l x with m | m
          · rw [m] at z; subst z; subst nb; omega
          · rw [z] at m; subst nb; have := hb n m; omega
        constructor
        · intro z; exact absurd z ne
        · intro z
          exfalso
          have := z x (.inr List.mem_cons_self) (fun w => by subst w; subst nb; omega)
          subst nb
          rw [if_pos (by omega)] at this
          exact this q
      · have hn' : n = x ∨ n ∈ l := by
          rcases hn with z | z
          · exact absurd z nb
          · exact List.mem_cons.mp z
        rw [mxG_first g ix l x n p1 p2 hn']
        constructor
        · intro z y hy ne
          rcases hy with w | w
          · subst w
            have le : g x ≤ g n := by
              by_cases nx : n = x
              · subst nx; omega
              · have := z x (.inl rfl) (Ne.symm nx)
                split at this <;> omega
            rw [if_pos (by omega)]
            omega
          · exact z y (List.mem_cons.mp w) ne
        · intro z y hy ne
          exact z y (.inr (List.mem_cons.mpr hy)) ne
    · rw [if_neg q]
      by_cases nx : n = x
      · have ne : mxG g b l ≠ n := fun z => by
          rcases mxG_mem g l b with m | m
          · rw [m] at z; subst z; subst nx; omega
          · rw [z] at m; subst nx; have := p1 n m; omega
        constructor
        · intro z; exact absurd z ne
        · intro z
          exfalso
          have := z b (.inl rfl) (fun w => by subst w; subst nx; omega)
          subst nx
          split at this <;> omega
      · have hn' : n = b ∨ n ∈ l := by
          rcases hn with z | z
          · exact .inl z
          · rcases List.mem_cons.mp z with w | w
            · exact absurd w nx
            · exact .inr w
        rw [mxG_first g ix l b n hb p2 hn']
        constructor
        · intro z y hy ne
          rcases hy with w | w
          · exact z y (.inl w) ne
          · rcases List.mem_cons.mp w with w | w
            · subst w
              by_cases bn : b = n
              · subst bn
                split <;> omega
              · have := z b (.inl rfl) bn
                split at this <;> split <;> omega
            · exact z y (.inr w) ne
        · intro z y hy ne
          rcases hy with w | w
          · exact z y (.inl w) ne
          · exact z y (.inr (List.mem_cons_of_mem _ w)) ne
end My
namespace My
open PySem L2
/-- a comprehension over a list of the store that stays -/
theorem itLG_enc {α : Type} {n : Nat} {es : List D} {enc : α → D} {p : α → Bool} {f : α → D} {w : List Slot} {dg : D → M Unit} {dt : M Bool} {de : M D} {vs : List Nat} {r0 : List Slot} {S : List Cell} (hn : S[n]? = some (.lst es)) : ∀ (xs : List α) (acc : List D) (c : Stt), wipeD c.r vs = w → c.S = S → acc.length + xs.length ≤ 1000000 →
    (∀ x ∈ xs, ∃ c1, dg (enc x) ⟨w, S⟩ = .ok () c1 ∧ ∃ c2, dt c1 = .ok (p x) c2 ∧ c2.S = S ∧ wipeD c2.r vs = w ∧ (p x = true → ∃ c3, de c2 = .ok (f x) c3 ∧ wipeD c3.r vs = w ∧ c3.S = S)) →
    itLG n es dg dt de vs r0 (xs.map enc) acc c = .ok (acc ++ (xs.filter p).map f) ⟨w, S⟩
  | [], acc, c, hw, hS, _, _ => by
    rw [List.map_nil]
    unfold itLG
    rw [hS, if_pos hn, hw]
    simp
  | x :: xs, acc, c, hw, hS, hz, t => by
    obtain ⟨c1, e1, c2, e2, s2, w2, k⟩ := t x List.mem_cons_self
    rw [List.map_cons]
    unfold itLG
    rw [hS, if_pos hn, hw]
    simp only [M.bind, M.ne, e1, e2]
    cases hp : p x with
    | false =>
      simp only [Bool.false_eq_true, if_false]
      rw [itLG_enc hn xs acc c2 w2 s2 (by simp at hz ⊢; omega) fun y hy => t y (List.mem_cons_of_mem _ hy)]
      rw [List.filter_cons, hp]
      rfl
    | true =>
      obtain ⟨c3, e3, w3, s3⟩ := k hp
      have hl : acc.length < 1000000 := by simp at hz; omega
      simp only [if_true, M.bind, M.ne, e3, hl]
      rw [itLG_enc hn xs (acc ++ [f x]) c3 w3 s3 (by simp at hz ⊢; omega) fun y hy => t y (List.mem_cons_of_mem _ hy)]
      rw [List.filter_cons, hp]
      simp
/-- a for over a list of the store that stays -/
theorem itG_inv {n : Nat} {es : List D} {dg : D → M Unit} {db : M Fl} {Inv : Nat → Stt → Prop} (hn : ∀ i c, Inv i c → c.S[n]? = some (.lst es)) : ∀ (ds : List D) (i : Nat) (c : Stt), Inv i c → (∀ (j : Nat) (d : D) (c : Stt), ds[j]? = some d → Inv (i + j) c → ∃ c1, dg d c = .ok () c1 ∧ ∃ c2, db c1 = .ok .nx c2 ∧ Inv (i + j + 1) c2) →
    ∃ c', itG n es dg db ds c = .ok .nx c' ∧ Inv (i + ds.length) c'
  | [], i, c, h, _ => ⟨c, by unfold itG; rw [if_pos (hn _ _ h)], h⟩
  | d :: r, i, c, h, t => by
    obtain ⟨c1, e1, c2, e2, h2⟩ := t 0 d c rfl h
    obtain ⟨c', e3, h3⟩ := itG_inv hn r (i + 1) c2 h2 fun j d' c' q hc => by
      have := t (j + 1) d' c' (by simpa using q) (by rw [← Nat.add_assoc, Nat.add_right_comm]; exact hc)
      simpa [Nat.add_assoc, Nat.add_comm, Nat.add_left_comm] using this
    refine ⟨c', ?_, by simpa [Nat.add_assoc, Nat.add_comm, Nat.add_left_comm] using h3⟩
    unfold itG
    rw [if_pos (hn _ _ h)]
    simp only [M.bind, M.ne, e1, e2]
    exact e3
theorem blsD_mp {α : Type} (f : α → Bool) : ∀ l : List α, blsD (l.map fun x => D.v (.bl (f x))) = some (l.map f)
  | [] => rfl
  | x :: l => by
    show (blsD (l.map fun x => D.v (.bl (f x)))).map (f x :: ·) = _
    rw [blsD_mp f l]
    rfl
theorem gAny_map {α : Type} (f : α → Bool) (l : List α) (c : Stt) : gAny (.d (.lst (l.map fun x => D.v (.bl (f x))))) c = .ok (.v (.bl (l.any f))) c := by
  unfold gAny
  have : rdlD c (.d (.lst (l.map fun x => D.v (.bl (f x))))) = some (l.map fun x => D.v (.bl (f x))) := rfl
  rw [this]
  dsimp only [Option.bind]
  rw [blsD_mp]
  dsimp only
  rw [List.any_map]
  rfl
theorem vsD_ints : ∀ l : List Int, vsD (l.map I) = some (l.map V.int)
  | [] => rfl
  | x :: l => by
    show (if flatV (V.int x) = true then (vsD (l.map I)).map (V.int x :: ·) else none) = _
    rw [if_pos (show flatV (V.int x) = true from rfl), vsD_ints l]
    rfl
end My

set_option Elab.async false
set_option linter.all false
set_option maxRecDepth 100000
set_option maxHeartbeats 4000000
namespace Law
open PySem L2 My
local macro_rules | `(tactic| simp_arith [$ts,*] $loc:location) => `(tactic| simp only [runD, dD, dNil, dCons, dAnd, dOr, dNotT, dAndV, dOrV, dNotV, dIf, dTru, dCmpT, dSeq, dRet, dSet, dSetN, dIfS, dNx, dDrop, dOp, dNeg, dTup, dLst, dC,
  dK, dVar, okD, okN, frz, dCall, ofF, dAug, dPar, dApp, dChain, dListOf, dSlL, dRev, M.bind, M.pure, M.no, M.ne, dName, dUnit, dConsG, dTupG, gOr, gI,
  gS, gAdd, gSubI, gMul, gDiv, gMod, gPow, gIx, gLen, gAbs, gInt1, gSum, gAll, gAny, gMaxL, gMinL, gTupOf, g2I, gDm, gPart, gTru, gBool, gBoolO,
  gEq_pair, gEq_ints, gEq_sl1, gEq_sl2, opL, gEq_int, gEq_str, gEq_bl, gEq_non, gNone, gIn, gSign, gCat, gRep, gIsi, iLt, iLe, iGt, iGe, My.isNon, truD,
  tagD, seqD, lstD, rdlD, mutD, putL, tupD, vsD, rng1X, rng2X, enuX, zipX, seqX, Option.bind, Option.map, Option.bind_some, Option.map_some,
  List.map_cons, List.map_nil, List.length_cons, List.length_nil, List.nil_append, List.cons_append, List.replicate, List.getElem?_cons_zero,
  List.getElem?_cons_succ, List.set_cons_zero, List.set_cons_succ, List.append_nil, if_true, if_false, ite_true, ite_false, Nat.reduceAdd,
  Int.reduceToNat, Int.reducePow, Nat.reducePow, Int.reduceMul, Int.reduceAdd, Int.reduceSub, Int.reduceLT, Int.reduceLE, Nat.reduceMul,
  Int.cast_ofNat_Int, Nat.reduceSub, Nat.reduceLT, Nat.reduceLeDiff, ne_eq, reduceCtorEq, not_false_eq_true, not_true_eq_false, Int.reduceEq,
  Int.reduceNeg, Bool.false_eq_true, Bool.not_true, Bool.not_false, decide_true, decide_false, true_and, and_true, false_and, and_false, or_true,
  true_or, or_false, false_or, id_eq, Bool.true_eq_false, decide_eq_true_eq, Bool.not_eq_true', decide_eq_false_iff_not, Bool.not_not, blsD,
  List.all_cons, List.all_nil, List.any_cons, List.any_nil, Bool.and_self, Bool.and_true, Bool.or_false, dFor, dLc, itL, wipeD, backD,
  isi_NoneType_bool, isi_NoneType_int, isi_NoneType_str, isi_NoneType_tuple, isi_NoneType_list, isi_NoneType_dict, isi_bool_bool, isi_bool_int,
  isi_bool_str, isi_bool_tuple, isi_bool_list, isi_bool_dict, isi_int_bool, isi_int_int, isi_int_str, isi_int_tuple, isi_int_list, isi_int_dict,
  isi_str_bool, isi_str_int, isi_str_str, isi_str_tuple, isi_str_list, isi_str_dict, isi_tuple_bool, isi_tuple_int, isi_tuple_str, isi_tuple_tuple,
  isi_tuple_list, isi_tuple_dict, isi_list_bool, isi_list_int, isi_list_str, isi_list_tuple, isi_list_list, isi_list_dict, isi_dict_bool, isi_dict_int,
  isi_dict_str, isi_dict_tuple, isi_dict_list, isi_dict_dict, $ts,*] $loc:location)
local macro_rules | `(tactic| simp_arith [$ts,*]) => `(tactic| simp only [runD, dD, dNil, dCons, dAnd, dOr, dNotT, dAndV, dOrV, dNotV, dIf, dTru, dCmpT, dSeq, dRet, dSet, dSetN, dIfS, dNx, dDrop, dOp, dNeg, dTup, dLst, dC,
  dK, dVar, okD, okN, frz, dCall, ofF, dAug, dPar, dApp, dChain, dListOf, dSlL, dRev, M.bind, M.pure, M.no, M.ne, dName, dUnit, dConsG, dTupG, gOr, gI,
  gS, gAdd, gSubI, gMul, gDiv, gMod, gPow, gIx, gLen, gAbs, gInt1, gSum, gAll, gAny, gMaxL, gMinL, gTupOf, g2I, gDm, gPart, gTru, gBool, gBoolO,
  gEq_pair, gEq_ints, gEq_sl1, gEq_sl2, opL, gEq_int, gEq_str, gEq_bl, gEq_non, gNone, gIn, gSign, gCat, gRep, gIsi, iLt, iLe, iGt, iGe, My.isNon, truD,
  tagD, seqD, lstD, rdlD, mutD, putL, tupD, vsD, rng1X, rng2X, enuX, zipX, seqX, Option.bind, Option.map, Option.bind_some, Option.map_some,
  List.map_cons, List.map_nil, List.length_cons, List.length_nil, List.nil_append, List.cons_append, List.replicate, List.getElem?_cons_zero,
  List.getElem?_cons_succ, List.set_cons_zero, List.set_cons_succ, List.append_nil, if_true, if_false, ite_true, ite_false, Nat.reduceAdd,
  Int.reduceToNat, Int.reducePow, Nat.reducePow, Int.reduceMul, Int.reduceAdd, Int.reduceSub, Int.reduceLT, Int.reduceLE, Nat.reduceMul,
  Int.cast_ofNat_Int, Nat.reduceSub, Nat.reduceLT, Nat.reduceLeDiff, ne_eq, reduceCtorEq, not_false_eq_true, not_true_eq_false, Int.reduceEq,
  Int.reduceNeg, Bool.false_eq_true, Bool.not_true, Bool.not_false, decide_true, decide_false, true_and, and_true, false_and, and_false, or_true,
  true_or, or_false, false_or, id_eq, Bool.true_eq_false, decide_eq_true_eq, Bool.not_eq_true', decide_eq_false_iff_not, Bool.not_not, blsD,
  List.all_cons, List.all_nil, List.any_cons, List.any_nil, Bool.and_self, Bool.and_true, Bool.or_false, dFor, dLc, itL, wipeD, backD,
  isi_NoneType_bool, isi_NoneType_int, isi_NoneType_str, isi_NoneType_tuple, isi_NoneType_list, isi_NoneType_dict, isi_bool_bool, isi_bool_int,
  isi_bool_str, isi_bool_tuple, isi_bool_list, isi_bool_dict, isi_int_bool, isi_int_int, isi_int_str, isi_int_tuple, isi_int_list, isi_int_dict,
  isi_str_bool, isi_str_int, isi_str_str, isi_str_tuple, isi_str_list, isi_str_dict, isi_tuple_bool, isi_tuple_int, isi_tuple_str, isi_tuple_tuple,
  isi_tuple_list, isi_tuple_dict, isi_list_bool, isi_list_int, isi_list_str, isi_list_tuple, isi_list_list, isi_list_dict, isi_dict_bool, isi_dict_int,
  isi_dict_str, isi_dict_tuple, isi_dict_list, isi_dict_dict, $ts,*])
def top (i : Nat) : Stmt := PySem.Challenge.pw_hallclock_k22_desks.main.body.getD i (.Pass ⟨0, 0, 0, 0⟩)
class Env where
  Place : Addr
  Passing : Addr
  DeskPlace : Addr
  Visitor : Addr
  Floor : Addr
  cl_DeskPlace_first : Addr
  tl_DeskPlace_first : Addr
  nd : ([Place, Passing, DeskPlace, Visitor, Floor] : List Addr).Nodup
  ndT : ([tl_DeskPlace_first] : List Addr).Nodup
abbrev q_DeskPlace_first : Str := ("DeskPlace.first" : Str) ++ ".<locals>." ++ "<lambda>"
instance tabs [en : Env] : TabEnv := ⟨[(Env.tl_DeskPlace_first, q_DeskPlace_first)]⟩
section
variable [en : Env]
theorem mem_DeskPlace_first : (Env.tl_DeskPlace_first, q_DeskPlace_first) ∈ TabEnv.T := by
  show _ ∈ [(Env.tl_DeskPlace_first, q_DeskPlace_first)]
  simp
theorem one_DeskPlace_first : ∀ p ∈ TabEnv.T, p.1 = Env.tl_DeskPlace_first → p.2 = q_DeskPlace_first := fun p hp e => by
  have hp : p ∈ [(Env.tl_DeskPlace_first, q_DeskPlace_first)] := hp
  have nd := en.ndT
  simp only [List.nodup_cons, List.mem_cons, List.not_mem_nil, or_false, not_or] at hp nd
  rcases hp with rfl
  · rfl
end
structure Tx (K : PySem.W.Frag) (mg : Str → Option Value) (a_Place : Addr) (a_Passing : Addr) (a_DeskPlace : Addr) (a_Visitor : Addr) (a_Floor : Addr) (a_cl_DeskPlace_first : Addr) (a_tl_DeskPlace_first : Addr) : Prop where
  i_Place : HasC K mg "Place" a_Place "Place.__init__" (inClass (top 2) 0) ["self", "told"]
  i_Visitor : HasC K mg "Visitor" a_Visitor "Visitor.__init__" (inClass (top 13) 0) ["self", "rank", "called", "since"]
  i_Passing : HasC K mg "Passing" a_Passing "Passing.__init__" (inClass (top 3) 0) ["self", "told"]
  i_DeskPlace : HasC K mg "DeskPlace" a_DeskPlace "DeskPlace.__init__" (inClass (top 5) 0) ["self", "told"]
  i_Floor : HasC K mg "Floor" a_Floor "Floor.__init__" (inClass (top 14) 0) ["self", "hall"]
  c_Place : Cls K a_Place
  c_Passing : Cls K a_Passing
  c_DeskPlace : Cls K a_DeskPlace
  c_Visitor : Cls K a_Visitor
  c_Floor : Cls K a_Floor
  na_DeskPlace_begun : NoAttr K a_DeskPlace "begun"
  na_Place_called : NoAttr K a_Place "called"
  na_Passing_called : NoAttr K a_Passing "called"
  na_DeskPlace_called : NoAttr K a_DeskPlace "called"
  na_Visitor_called : NoAttr K a_Visitor "called"
  na_Visitor_grade : NoAttr K a_Visitor "grade"
  na_Floor_guests : NoAttr K a_Floor "guests"
  na_DeskPlace_hands : NoAttr K a_DeskPlace "hands"
  na_DeskPlace_is_ranked : NoAttr K a_DeskPlace "is_ranked"
  na_Floor_pools : NoAttr K a_Floor "pools"
  na_Floor_ranks : NoAttr K a_Floor "ranks"
  na_DeskPlace_rests : NoAttr K a_DeskPlace "rests"
  na_Floor_rows : NoAttr K a_Floor "rows"
  na_Visitor_since : NoAttr K a_Visitor "since"
  na_Floor_spots : NoAttr K a_Floor "spots"
  na_DeskPlace_takes : NoAttr K a_DeskPlace "takes"
  na_Passing_then : NoAttr K a_Passing "then"
  na_DeskPlace_then : NoAttr K a_DeskPlace "then"
  na_Visitor_things : NoAttr K a_Visitor "things"
  na_Visitor_until : NoAttr K a_Visitor "until"
  d_law_ahead : Has K mg "_law_ahead" "_law_ahead" (top 21) ["_law_own", "_law_one", "_law_number"]
  d_law_cell_at : Has K mg "_law_cell_at" "_law_cell_at" (top 16) ["_law_script", "_law_k"]
  d_law_mixed : Has K mg "_law_mixed" "_law_mixed" (top 17) ["_law_cell", "_law_k"]
  d_law_names : Has K mg "_law_names" "_law_names" (top 18) ["_law_cell"]
  b_Place_init__ : HasB K mg "Place" "__init__" "Place.__init__" (inClass (top 2) 0) ["self", "told"]
  m_Floor_at_1 : HasM K a_Floor "at" "Floor.at" (inClass (top 14) 12) ["self", "name"]
  m_Place_change_1 : HasM K a_Place "change" "Place.change" (inClass (top 2) 4) ["self", "change"]
  m_Passing_change_1 : HasM K a_Passing "change" "Place.change" (inClass (top 2) 4) ["self", "change"]
  m_DeskPlace_change_1 : HasM K a_DeskPlace "change" "DeskPlace.change" (inClass (top 5) 7) ["self", "change"]
  m_Floor_enter_3 : HasM K a_Floor "enter" "Floor.enter" (inClass (top 14) 2) ["self", "number", "name", "turn"]
  m_Floor_place_1 : HasM K a_Floor "place" "Floor.place" (inClass (top 14) 6) ["self", "number"]
  m_Floor_rank_1 : HasM K a_Floor "rank" "Floor.rank" (inClass (top 14) 11) ["self", "number"]
  m_DeskPlace_rests_at_1 : HasM K a_DeskPlace "rests_at" "DeskPlace.rests_at" (inClass (top 5) 2) ["self", "turn"]
  m_Floor_serve_2 : HasM K a_Floor "serve" "Floor.serve" (inClass (top 14) 3) ["self", "number", "until"]
  m_Floor_where_1 : HasM K a_Floor "where" "Floor.where" (inClass (top 14) 10) ["self", "number"]
  d_law_can : Has K mg "_law_can" "_law_can" (top 22) ["_law_own", "_law_number", "_law_turn"]
  d_law_desk : Has K mg "_law_desk" "_law_desk" (top 20) ["_law_cell", "_law_names_here"]
  b_Passing_init__ : HasB K mg "Passing" "__init__" "Passing.__init__" (inClass (top 3) 0) ["self", "told"]
  b_Passing_moves : HasB K mg "Passing" "moves" "Passing.moves" (inClass (top 3) 2) ["self", "floor", "number", "turn"]
  m_Floor_change_1 : HasM K a_Floor "change" "Floor.change" (inClass (top 14) 16) ["self", "change"]
  m_DeskPlace_served_1 : HasM K a_DeskPlace "served" "DeskPlace.served" (inClass (top 5) 3) ["self", "floor"]
  d_law_changed : Has K mg "_law_changed" "_law_changed" (top 26) ["_law_floor", "_law_own", "_law_mixed_here"]
  m_Floor_come_2 : HasM K a_Floor "come" "Floor.come" (inClass (top 14) 1) ["self", "name", "turn"]
  m_Place_moves_3 : HasM K a_Place "moves" "Place.moves" (inClass (top 2) 2) ["self", "floor", "number", "turn"]
  m_Passing_moves_3 : HasM K a_Passing "moves" "Passing.moves" (inClass (top 3) 2) ["self", "floor", "number", "turn"]
  m_DeskPlace_moves_3 : HasM K a_DeskPlace "moves" "DeskPlace.moves" (inClass (top 5) 5) ["self", "floor", "number", "turn"]
  m_DeskPlace_first_1 : HasM K a_DeskPlace "first" "DeskPlace.first" (inClass (top 5) 1) ["self", "floor"]
  m_Floor_move_2 : HasM K a_Floor "move" "Floor.move" (inClass (top 14) 8) ["self", "number", "turn"]
  d_law_moved : Has K mg "_law_moved" "_law_moved" (top 24) ["_law_floor", "_law_own", "_law_number", "_law_turn"]
  d_place_of : Has K mg "place_of" "place_of" (top 11) ["told"]
  m_Place_can_3 : HasM K a_Place "can" "Place.can" (inClass (top 2) 1) ["self", "floor", "number", "turn"]
  m_Passing_can_3 : HasM K a_Passing "can" "Passing.can" (inClass (top 3) 1) ["self", "floor", "number", "turn"]
  m_DeskPlace_can_3 : HasM K a_DeskPlace "can" "DeskPlace.can" (inClass (top 5) 4) ["self", "floor", "number", "turn"]
  m_Floor_can_2 : HasM K a_Floor "can" "Floor.can" (inClass (top 14) 7) ["self", "number", "turn"]
  d_law_all_right : Has K mg "_law_all_right" "_law_all_right" (top 23) ["_law_floor", "_law_own", "_law_turn"]
  d_law_came : Has K mg "_law_came" "_law_came" (top 25) ["_law_floor", "_law_own", "_law_door", "_law_turn"]
  d_law : Has K mg "law" "law" (top 27) ["_law_script"]
  lam_DeskPlace_first : LamAt K "DeskPlace.first" a_cl_DeskPlace_first
  n_any : mg "any" = none
  n_bool : mg "bool" = none
  n_isinstance : mg "isinstance" = none
  n_len : mg "len" = none
  n_list : mg "list" = none
  n_max : mg "max" = none
  n_range : mg "range" = none
  n_tuple : mg "tuple" = none
section
variable [en : Env]
def Cs_begun : List Addr := [Env.DeskPlace]
theorem fa_begun {K : PySem.W.Frag} {mg : Str → Option Value} (T : Tx K mg Env.Place Env.Passing Env.DeskPlace Env.Visitor Env.Floor Env.cl_DeskPlace_first Env.tl_DeskPlace_first) : ∀ C ∈ Cs_begun, Cls K C ∧ NoAttr K C "begun" := fun C h => by
  simp only [Cs_begun, List.mem_cons, List.not_mem_nil, or_false] at h
  rcases h with rfl
  · exact ⟨T.c_DeskPlace, T.na_DeskPlace_begun⟩
def Cs_called : List Addr := [Env.Place, Env.Passing, Env.DeskPlace, Env.Visitor]
theorem fa_called {K : PySem.W.Frag} {mg : Str → Option Value} (T : Tx K mg Env.Place Env.Passing Env.DeskPlace Env.Visitor Env.Floor Env.cl_DeskPlace_first Env.tl_DeskPlace_first) : ∀ C ∈ Cs_called, Cls K C ∧ NoAttr K C "called" := fun C h => by
  simp only [Cs_called, List.mem_cons, List.not_mem_nil, or_false] at h
  rcases h with rfl | rfl | rfl | rfl
  · exact ⟨T.c_Place, T.na_Place_called⟩
  · exact ⟨T.c_Passing, T.na_Passing_called⟩
  · exact ⟨T.c_DeskPlace, T.na_DeskPlace_called⟩
  · exact ⟨T.c_Visitor, T.na_Visitor_called⟩
def Cs_grade : List Addr := [Env.Visitor]
theorem fa_grade {K : PySem.W.Frag} {mg : Str → Option Value} (T : Tx K mg Env.Place Env.Passing Env.DeskPlace Env.Visitor Env.Floor Env.cl_DeskPlace_first Env.tl_DeskPlace_first) : ∀ C ∈ Cs_grade, Cls K C ∧ NoAttr K C "grade" := fun C h => by
  simp only [Cs_grade, List.mem_cons, List.not_mem_nil, or_false] at h
  rcases h with rfl
  · exact ⟨T.c_Visitor, T.na_Visitor_grade⟩
def Cs_guests : List Addr := [Env.Floor]
theorem fa_guests {K : PySem.W.Frag} {mg : Str → Option Value} (T : Tx K mg Env.Place Env.Passing Env.DeskPlace Env.Visitor Env.Floor Env.cl_DeskPlace_first Env.tl_DeskPlace_first) : ∀ C ∈ Cs_guests, Cls K C ∧ NoAttr K C "guests" := fun C h => by
  simp only [Cs_guests, List.mem_cons, List.not_mem_nil, or_false] at h
  rcases h with rfl
  · exact ⟨T.c_Floor, T.na_Floor_guests⟩
def Cs_hands : List Addr := [Env.DeskPlace]
theorem fa_hands {K : PySem.W.Frag} {mg : Str → Option Value} (T : Tx K mg Env.Place Env.Passing Env.DeskPlace Env.Visitor Env.Floor Env.cl_DeskPlace_first Env.tl_DeskPlace_first) : ∀ C ∈ Cs_hands, Cls K C ∧ NoAttr K C "hands" := fun C h => by
  simp only [Cs_hands, List.mem_cons, List.not_mem_nil, or_false] at h
  rcases h with rfl
  · exact ⟨T.c_DeskPlace, T.na_DeskPlace_hands⟩
def Cs_is_ranked : List Addr := [Env.DeskPlace]
theorem fa_is_ranked {K : PySem.W.Frag} {mg : Str → Option Value} (T : Tx K mg Env.Place Env.Passing Env.DeskPlace Env.Visitor Env.Floor Env.cl_DeskPlace_first Env.tl_DeskPlace_first) : ∀ C ∈ Cs_is_ranked, Cls K C ∧ NoAttr K C "is_ranked" := fun C h => by
  simp only [Cs_is_ranked, List.mem_cons, List.not_mem_nil, or_false] at h
  rcases h with rfl
  · exact ⟨T.c_DeskPlace, T.na_DeskPlace_is_ranked⟩
def Cs_pools : List Addr := [Env.Floor]
theorem fa_pools {K : PySem.W.Frag} {mg : Str → Option Value} (T : Tx K mg Env.Place Env.Passing Env.DeskPlace Env.Visitor Env.Floor Env.cl_DeskPlace_first Env.tl_DeskPlace_first) : ∀ C ∈ Cs_pools, Cls K C ∧ NoAttr K C "pools" := fun C h => by
  simp only [Cs_pools, List.mem_cons, List.not_mem_nil, or_false] at h
  rcases h with rfl
  · exact ⟨T.c_Floor, T.na_Floor_pools⟩
def Cs_ranks : List Addr := [Env.Floor]
theorem fa_ranks {K : PySem.W.Frag} {mg : Str → Option Value} (T : Tx K mg Env.Place Env.Passing Env.DeskPlace Env.Visitor Env.Floor Env.cl_DeskPlace_first Env.tl_DeskPlace_first) : ∀ C ∈ Cs_ranks, Cls K C ∧ NoAttr K C "ranks" := fun C h => by
  simp only [Cs_ranks, List.mem_cons, List.not_mem_nil, or_false] at h
  rcases h with rfl
  · exact ⟨T.c_Floor, T.na_Floor_ranks⟩
def Cs_rests : List Addr := [Env.DeskPlace]
theorem fa_rests {K : PySem.W.Frag} {mg : Str → Option Value} (T : Tx K mg Env.Place Env.Passing Env.DeskPlace Env.Visitor Env.Floor Env.cl_DeskPlace_first Env.tl_DeskPlace_first) : ∀ C ∈ Cs_rests, Cls K C ∧ NoAttr K C "rests" := fun C h => by
  simp only [Cs_rests, List.mem_cons, List.not_mem_nil, or_false] at h
  rcases h with rfl
  · exact ⟨T.c_DeskPlace, T.na_DeskPlace_rests⟩
def Cs_rows : List Addr := [Env.Floor]
theorem fa_rows {K : PySem.W.Frag} {mg : Str → Option Value} (T : Tx K mg Env.Place Env.Passing Env.DeskPlace Env.Visitor Env.Floor Env.cl_DeskPlace_first Env.tl_DeskPlace_first) : ∀ C ∈ Cs_rows, Cls K C ∧ NoAttr K C "rows" := fun C h => by
  simp only [Cs_rows, List.mem_cons, List.not_mem_nil, or_false] at h
  rcases h with rfl
  · exact ⟨T.c_Floor, T.na_Floor_rows⟩
def Cs_since : List Addr := [Env.Visitor]
theorem fa_since {K : PySem.W.Frag} {mg : Str → Option Value} (T : Tx K mg Env.Place Env.Passing Env.DeskPlace Env.Visitor Env.Floor Env.cl_DeskPlace_first Env.tl_DeskPlace_first) : ∀ C ∈ Cs_since, Cls K C ∧ NoAttr K C "since" := fun C h => by
  simp only [Cs_since, List.mem_cons, List.not_mem_nil, or_false] at h
  rcases h with rfl
  · exact ⟨T.c_Visitor, T.na_Visitor_since⟩
def Cs_spots : List Addr := [Env.Floor]
theorem fa_spots {K : PySem.W.Frag} {mg : Str → Option Value} (T : Tx K mg Env.Place Env.Passing Env.DeskPlace Env.Visitor Env.Floor Env.cl_DeskPlace_first Env.tl_DeskPlace_first) : ∀ C ∈ Cs_spots, Cls K C ∧ NoAttr K C "spots" := fun C h => by
  simp only [Cs_spots, List.mem_cons, List.not_mem_nil, or_false] at h
  rcases h with rfl
  · exact ⟨T.c_Floor, T.na_Floor_spots⟩
def Cs_takes : List Addr := [Env.DeskPlace]
theorem fa_takes {K : PySem.W.Frag} {mg : Str → Option Value} (T : Tx K mg Env.Place Env.Passing Env.DeskPlace Env.Visitor Env.Floor Env.cl_DeskPlace_first Env.tl_DeskPlace_first) : ∀ C ∈ Cs_takes, Cls K C ∧ NoAttr K C "takes" := fun C h => by
  simp only [Cs_takes, List.mem_cons, List.not_mem_nil, or_false] at h
  rcases h with rfl
  · exact ⟨T.c_DeskPlace, T.na_DeskPlace_takes⟩
def Cs_then : List Addr := [Env.Passing, Env.DeskPlace]
theorem fa_then {K : PySem.W.Frag} {mg : Str → Option Value} (T : Tx K mg Env.Place Env.Passing Env.DeskPlace Env.Visitor Env.Floor Env.cl_DeskPlace_first Env.tl_DeskPlace_first) : ∀ C ∈ Cs_then, Cls K C ∧ NoAttr K C "then" := fun C h => by
  simp only [Cs_then, List.mem_cons, List.not_mem_nil, or_false] at h
  rcases h with rfl | rfl
  · exact ⟨T.c_Passing, T.na_Passing_then⟩
  · exact ⟨T.c_DeskPlace, T.na_DeskPlace_then⟩
def Cs_things : List Addr := [Env.Visitor]
theorem fa_things {K : PySem.W.Frag} {mg : Str → Option Value} (T : Tx K mg Env.Place Env.Passing Env.DeskPlace Env.Visitor Env.Floor Env.cl_DeskPlace_first Env.tl_DeskPlace_first) : ∀ C ∈ Cs_things, Cls K C ∧ NoAttr K C "things" := fun C h => by
  simp only [Cs_things, List.mem_cons, List.not_mem_nil, or_false] at h
  rcases h with rfl
  · exact ⟨T.c_Visitor, T.na_Visitor_things⟩
def Cs_until : List Addr := [Env.Visitor]
theorem fa_until {K : PySem.W.Frag} {mg : Str → Option Value} (T : Tx K mg Env.Place Env.Passing Env.DeskPlace Env.Visitor Env.Floor Env.cl_DeskPlace_first Env.tl_DeskPlace_first) : ∀ C ∈ Cs_until, Cls K C ∧ NoAttr K C "until" := fun C h => by
  simp only [Cs_until, List.mem_cons, List.not_mem_nil, or_false] at h
  rcases h with rfl
  · exact ⟨T.c_Visitor, T.na_Visitor_until⟩
end

section
variable [en : Env]
def VF (g c s u t : D) : List (Str × D) := [("grade", g), ("called", c), ("since", s), ("until", u), ("things", t)]
theorem lkV1 (g c s u t : D) : (VF g c s u t).lookup ("called" : Str) = some c := rfl
theorem lkV2 (g c s u t : D) : (VF g c s u t).lookup ("since" : Str) = some s := rfl
theorem lkV3 (g c s u t : D) : (VF g c s u t).lookup ("until" : Str) = some u := rfl
theorem lkV4 (g c s u t : D) : (VF g c s u t).lookup ("things" : Str) = some t := rfl
theorem lkV5 (g c s u t : D) : (VF g c s u t).lookup ("grade" : Str) = some g := rfl
theorem ptV1 (g c s u t x : D) : putFD "called" x (VF g c s u t) = VF g x s u t := rfl
theorem ptV2 (g c s u t x : D) : putFD "since" x (VF g c s u t) = VF g c x u t := rfl
theorem ptV3 (g c s u t x : D) : putFD "until" x (VF g c s u t) = VF g c s x t := rfl
theorem lnV (g c s u t : D) : (VF g c s u t).length = 5 := rfl
/-- where things stand; what stands there -/
inductive Tag where
  | f | sp | ro | po | rk | gs
  | pl (n : Str) | rw (n : Str) | vi (k : Nat) | th (k : Nat) | own (i : Nat)
structure Lay where
  f : Nat
  sp : Nat
  ro : Nat
  po : Nat
  rk : Nat
  gs : Nat
  pl : Str → Nat
  rw : Str → Nat
structure Vz where
  q : Nat
  t : Nat
  grade : Int
  called : Str
  since : Int
  til : Option Int
  things : List Str
def tilD : Option Int → D
  | none => .v .non
  | some u => .v (.int u)
structure Fm where
  ns : List Str
  plc : Str → Cell
  rows : Str → List Int
  ps : List Str
  pz : Str → Int
  ks : List Str
  kz : Str → Int
  vis : List Vz
  own : List (Nat × Cell)
def vcell (v : Vz) : Cell := .ins Env.Visitor (VF (.v (.int v.grade)) (.v (.str v.called)) (.v (.int v.since)) (tilD v.til) (.loc v.t))
def Sd (ts : List Str) : List D := ts.map fun x => .v (.str x)
def FFL (L : Lay) : List (Str × D) := [("spots", .loc L.sp), ("rows", .loc L.ro), ("pools", .loc L.po), ("ranks", .loc L.rk), ("guests", .loc L.gs)]
theorem lkF1 (L : Lay) : (FFL L).lookup ("spots" : Str) = some (.loc L.sp) := rfl
theorem lkF2 (L : Lay) : (FFL L).lookup ("rows" : Str) = some (.loc L.ro) := rfl
theorem lkF3 (L : Lay) : (FFL L).lookup ("pools" : Str) = some (.loc L.po) := rfl
theorem lkF4 (L : Lay) : (FFL L).lookup ("ranks" : Str) = some (.loc L.rk) := rfl
theorem lkF5 (L : Lay) : (FFL L).lookup ("guests" : Str) = some (.loc L.gs) := rfl
theorem lkFa (L : Lay) : (FFL L).lookup ("where" : Str) = none := rfl
theorem lkFb (L : Lay) : (FFL L).lookup ("at" : Str) = none := rfl
theorem lkFc (L : Lay) : (FFL L).lookup ("enter" : Str) = none := rfl
theorem lkFd (L : Lay) : (FFL L).lookup ("place" : Str) = none := rfl
theorem lkFe (L : Lay) : (FFL L).lookup ("many" : Str) = none := rfl
theorem lkFf (L : Lay) : (FFL L).lookup ("can" : Str) = none := rfl
theorem lkFg (L : Lay) : (FFL L).lookup ("come" : Str) = none := rfl
theorem lkFh (L : Lay) : (FFL L).lookup ("move" : Str) = none := rfl
theorem lkFi (L : Lay) : (FFL L).lookup ("left" : Str) = none := rfl
theorem lkFj (L : Lay) : (FFL L).lookup ("held" : Str) = none := rfl
theorem lkFk (L : Lay) : (FFL L).lookup ("lend" : Str) = none := rfl
theorem lkFl (L : Lay) : (FFL L).lookup ("give" : Str) = none := rfl
theorem lkFm (L : Lay) : (FFL L).lookup ("serve" : Str) = none := rfl
theorem lkFn (L : Lay) : (FFL L).lookup ("rank" : Str) = none := rfl
def spD (L : Lay) (ns : List Str) : List (Key × D) := ns.map fun n => (.inr n, .loc (L.pl n))
def roD (L : Lay) (ns : List Str) : List (Key × D) := ns.map fun n => (.inr n, .loc (L.rw n))
def izD (ps : List Str) (z : Str → Int) : List (Key × D) := ps.map fun p => (.inr p, .v (.int (z p)))
def gsD (vs : List Vz) : List D := vs.map fun v => .loc v.q
open Classical in
noncomputable def cells (L : Lay) (m : Fm) : Tag → Option (Nat × Cell)
  | .f => some (L.f, .ins Env.Floor (FFL L))
  | .sp => some (L.sp, .dct (spD L m.ns))
  | .ro => some (L.ro, .dct (roD L m.ns))
  | .po => some (L.po, .dct (izD m.ps m.pz))
  | .rk => some (L.rk, .dct (izD m.ks m.kz))
  | .gs => some (L.gs, .lst (gsD m.vis))
  | .pl n => if n ∈ m.ns then some (L.pl n, m.plc n) else none
  | .rw n => if n ∈ m.ns then some (L.rw n, .lst ((m.rows n).map I)) else none
  | .vi k => m.vis[k]?.map fun v => (v.q, vcell v)
  | .th k => m.vis[k]?.map fun v => (v.t, .lst (Sd v.things))
  | .own i => m.own[i]?
structure FloorAt (L : Lay) (m : Fm) (S : List Cell) : Prop where
  at_ : ∀ t a c, cells L m t = some (a, c) → S[a]? = some c
  inj : ∀ t t' a c c', cells L m t = some (a, c) → cells L m t' = some (a, c') → t = t'
theorem FloorAt.step {L L' : Lay} {m m' : Fm} {S S' : List Cell} (h : FloorAt L m S) (k : ∀ t a c, cells L' m' t = some (a, c) → S'[a]? = some c ∧ ((∃ c0, cells L m t = some (a, c0)) ∨ S.length ≤ a))
    (j : ∀ t t' a c c', cells L' m' t = some (a, c) → cells L' m' t' = some (a, c') → S.length ≤ a → t = t') : FloorAt L' m' S' where
  at_ := fun t a c e => (k t a c e).1
  inj := fun t t' a c c' e e' => by
    rcases (k t a c e).2 with ⟨c0, h0⟩ | hn
    · rcases (k t' a c' e').2 with ⟨c1, h1⟩ | hn
      · exact h.inj t t' a c0 c1 h0 h1
      · exact j t t' a c c' e e' hn
    · exact j t t' a c c' e e' hn
theorem FloorAt.put {L L' : Lay} {m m' : Fm} {S : List Cell} (h : FloorAt L m S) {t : Tag} {a : Nat} {c0 c : Cell} (ht : cells L m t = some (a, c0)) (e1 : cells L' m' t = some (a, c)) (e2 : ∀ t', t' ≠ t → cells L' m' t' = cells L m t') : FloorAt L' m' (S.set a c) := by
  have hk : ∀ t' a' c', cells L' m' t' = some (a', c') → ∃ c1, cells L m t' = some (a', c1) := fun t' a' c' e => by
    by_cases q : t' = t
    · subst q
      rw [e1] at e
      cases e
      exact ⟨_, ht⟩
    · rw [e2 t' q] at e
      exact ⟨_, e⟩
  refine h.step (fun t' a' c' e => ⟨?_, .inl (hk t' a' c' e)⟩) fun t1 t2 a1 ca cb ea eb _ => ?_
  · by_cases q : t' = t
    · subst q
      rw [e1] at e
      cases e
      exact st_get (h.at_ _ _ _ ht) _
    · have e' := e
      rw [e2 t' q] at e'
      rw [List.getElem?_set_ne (fun z => q (by subst z; exact h.inj t' t _ _ _ e' ht))]
      exact h.at_ _ _ _ e'
  · obtain ⟨_, h1⟩ := hk _ _ _ ea
    obtain ⟨_, h2⟩ := hk _ _ _ eb
    exact h.inj _ _ _ _ _ h1 h2
theorem FloorAt.push {L : Lay} {m : Fm} {S : List Cell} (h : FloorAt L m S) (U : List Cell) : FloorAt L m (S ++ U) where
  at_ := fun t a c e => by
    have := h.at_ t a c e
    rw [List.getElem?_append_left (List.getElem?_eq_some_iff.mp this).1]
    exact this
  inj := h.inj
theorem FloorAt.lt {L : Lay} {m : Fm} {S : List Cell} (h : FloorAt L m S) {t : Tag} {a : Nat} {c : Cell} (e : cells L m t = some (a, c)) : a < S.length := (List.getElem?_eq_some_iff.mp (h.at_ t a c e)).1
/-- new things at the end -/
theorem FloorAt.new {L L' : Lay} {m m' : Fm} {S : List Cell} (h : FloorAt L m S) {t : Tag} {c : Cell} (e1 : cells L' m' t = some (S.length, c)) (e2 : ∀ t', t' ≠ t → cells L' m' t' = cells L m t') : FloorAt L' m' (S ++ [c]) := by
  refine h.step (fun t' a' c' e => ?_) fun t1 t2 a1 ca cb ea eb hl => ?_
  · by_cases q : t' = t
    · subst q
      rw [e1] at e
      cases e
      exact ⟨tl_get S _, .inr (Nat.le_refl _)⟩
    · rw [e2 t' q] at e
      exact ⟨(h.push [c]).at_ _ _ _ e, .inl ⟨_, e⟩⟩
  · have key : ∀ t' c', cells L' m' t' = some (a1, c') → t' = t := fun t' c' e => by
      by_cases q : t' = t
      · exact q
      · rw [e2 t' q] at e
        have := h.lt e
        omega
    rw [key _ _ ea, key _ _ eb]
/-! ### looking -/
section
variable {L : Lay} {m : Fm} {S : List Cell}
theorem FloorAt.gf (h : FloorAt L m S) : S[L.f]? = some (.ins Env.Floor (FFL L)) := h.at_ .f _ _ rfl
theorem FloorAt.gsp (h : FloorAt L m S) : S[L.sp]? = some (.dct (spD L m.ns)) := h.at_ .sp _ _ rfl
theorem FloorAt.gro (h : FloorAt L m S) : S[L.ro]? = some (.dct (roD L m.ns)) := h.at_ .ro _ _ rfl
theorem FloorAt.gpo (h : FloorAt L m S) : S[L.po]? = some (.dct (izD m.ps m.pz)) := h.at_ .po _ _ rfl
theorem FloorAt.grk (h : FloorAt L m S) : S[L.rk]? = some (.dct (izD m.ks m.kz)) := h.at_ .rk _ _ rfl
theorem FloorAt.ggs (h : FloorAt L m S) : S[L.gs]? = some (.lst (gsD m.vis)) := h.at_ .gs _ _ rfl
theorem FloorAt.gpl (h : FloorAt L m S) {n : Str} (hn : n ∈ m.ns) : S[L.pl n]? = some (m.plc n) := h.at_ (.pl n) _ _ (if_pos hn)
theorem FloorAt.grw (h : FloorAt L m S) {n : Str} (hn : n ∈ m.ns) : S[L.rw n]? = some (.lst ((m.rows n).map I)) := h.at_ (.rw n) _ _ (if_pos hn)
theorem FloorAt.gvi (h : FloorAt L m S) {k : Nat} {v : Vz} (hk : m.vis[k]? = some v) : S[v.q]? = some (vcell v) := h.at_ (.vi k) _ _ (by show (m.vis[k]?.map fun v => (v.q, vcell v)) = _; rw [hk]; rfl)
theorem FloorAt.gth (h : FloorAt L m S) {k : Nat} {v : Vz} (hk : m.vis[k]? = some v) : S[v.t]? = some (.lst (Sd v.things)) := h.at_ (.th k) _ _ (by show (m.vis[k]?.map fun v => (v.t, Cell.lst (Sd v.things))) = _; rw [hk]; rfl)
theorem FloorAt.gow (h : FloorAt L m S) {i : Nat} {a : Nat} {c : Cell} (hk : m.own[i]? = some (a, c)) : S[a]? = some c := h.at_ (.own i) _ _ hk
theorem gs_at {vs : List Vz} {k : Nat} {v : Vz} (h : vs[k]? = some v) : atI (gsD vs) (k : Nat) = some (.loc v.q) := atI_nat (by unfold gsD; rw [List.getElem?_map, h]; rfl)
theorem sp_at {L : Lay} {n : Str} : ∀ {ns : List Str}, n ∈ ns → valD (spD L ns) (.inr n) = some (.loc (L.pl n))
  | x :: ns, h => by
    unfold valD spD
    rw [List.map_cons, List.find?_cons]
    by_cases q : x = n
    · subst q
      simp
    · have : n ∈ ns := by
        rcases List.mem_cons.mp h with e | e
        · exact absurd e.symm q
        · exact e
      simp only [Sum.inr.injEq, q, decide_false]
      exact sp_at this
theorem ro_at {L : Lay} {n : Str} : ∀ {ns : List Str}, n ∈ ns → valD (roD L ns) (.inr n) = some (.loc (L.rw n))
  | x :: ns, h => by
    unfold valD roD
    rw [List.map_cons, List.find?_cons]
    by_cases q : x = n
    · subst q
      simp
    · have : n ∈ ns := by
        rcases List.mem_cons.mp h with e | e
        · exact absurd e.symm q
        · exact e
      simp only [Sum.inr.injEq, q, decide_false]
      exact ro_at this
theorem iz_at {z : Str → Int} {n : Str} : ∀ {ns : List Str}, n ∈ ns → valD (izD ns z) (.inr n) = some (.v (.int (z n)))
  | x :: ns, h => by
    unfold valD izD
    rw [List.map_cons, List.find?_cons]
    by_cases q : x = n
    · subst q
      simp
    · have : n ∈ ns := by
        rcases List.mem_cons.mp h with e | e
        · exact absurd e.symm q
        · exact e
      simp only [Sum.inr.injEq, q, decide_false]
      exact iz_at this
theorem iz_new {z : Str → Int} {n : Str} {i : Int} {ns : List Str} (h : n ∉ ns) : putD (izD ns z) (.inr n) (.v (.int i)) = izD (ns ++ [n]) fun x => if x = n then i else z x := by
  unfold putD
  rw [if_neg]
  · unfold izD
    rw [List.map_append, List.map_cons, List.map_nil]
    congr 1
    · refine List.map_congr_left fun x hx => ?_
      have : x ≠ n := fun e => h (e ▸ hx)
      simp [this]
    · simp
  · unfold izD
    simp only [List.any_map, List.any_eq_true, not_exists, not_and]
    intro x hx e
    simp at e
    exact h (e ▸ hx)
theorem dc_new {f : Str → Nat} {n : Str} {a : Nat} {ns : List Str} (h : n ∉ ns) : putD (ns.map fun x => ((.inr x : Key), D.loc (f x))) (.inr n) (.loc a) = (ns ++ [n]).map fun x => ((.inr x : Key), D.loc (if x = n then a else f x)) := by
  unfold putD
  rw [if_neg]
  · rw [List.map_append, List.map_cons, List.map_nil]
    congr 1
    · refine List.map_congr_left fun x hx => ?_
      have : x ≠ n := fun e => h (e ▸ hx)
      simp [this]
    · simp
  · simp only [List.any_map, List.any_eq_true, not_exists, not_and]
    intro x hx e
    simp at e
    exact h (e ▸ hx)
theorem spl {L : Lay} {ns : List Str} : (spD L ns).length = ns.length := List.length_map _
theorem rol {L : Lay} {ns : List Str} : (roD L ns).length = ns.length := List.length_map _
theorem izl {z : Str → Int} {ns : List Str} : (izD ns z).length = ns.length := List.length_map _
theorem gsl {vs : List Vz} : (gsD vs).length = vs.length := List.length_map _
theorem Sdl {vs : List Str} : (Sd vs).length = vs.length := List.length_map _
end
/-! ### changing -/
theorem set_own {α : Type} {l : List α} {k : Nat} {x : α} (h : l[k]? = some x) : l.set k x = l := by
  refine List.ext_getElem? fun i => ?_
  rw [List.getElem?_set]
  split
  · next e =>
    subst e
    rw [if_pos (List.getElem?_eq_some_iff.mp h).1, h]
  · rfl
def Fm.setRow (m : Fm) (n : Str) (l : List Int) : Fm := { m with rows := fun x => if x = n then l else m.rows x }
def Fm.setVis (m : Fm) (k : Nat) (v : Vz) : Fm := { m with vis := m.vis.set k v }
def Fm.addVis (m : Fm) (v : Vz) : Fm := { m with vis := m.vis ++ [v] }
def Fm.setOwn (m : Fm) (i : Nat) (a : Nat) (c : Cell) : Fm := { m with own := m.own.set i (a, c) }
def Fm.addOwn (m : Fm) (a : Nat) (c : Cell) : Fm := { m with own := m.own ++ [(a, c)] }
section
variable {L : Lay} {m : Fm} {S : List Cell}
theorem FloorAt.setRow (h : FloorAt L m S) {n : Str} (hn : n ∈ m.ns) (l : List Int) : FloorAt L (m.setRow n l) (S.set (L.rw n) (.lst (l.map I))) := by
  refine h.put (t := .rw n) (if_pos hn) ?_ fun t' ht => ?_
  · show (if n ∈ m.ns then some (L.rw n, Cell.lst (((if n = n then l else m.rows n)).map I)) else none) = _
    rw [if_pos hn, if_pos rfl]
  · cases t' with
    | rw x =>
      have q : x ≠ n := fun e => ht (by rw [e])
      show (if x ∈ m.ns then some (L.rw x, Cell.lst (((if x = n then l else m.rows x)).map I)) else none) = _
      rw [if_neg q]
      rfl
    | _ => rfl
theorem FloorAt.setVis (h : FloorAt L m S) {k : Nat} {v w : Vz} (hk : m.vis[k]? = some v) (hq : w.q = v.q) (ht : w.t = v.t) (hs : w.things = v.things) : FloorAt L (m.setVis k w) (S.set v.q (vcell w)) := by
  have hl := (List.getElem?_eq_some_iff.mp hk).1
  refine h.put (t := .vi k) (c0 := vcell v) ?_ ?_ fun t' ht' => ?_
  · show (m.vis[k]?.map fun v => (v.q, vcell v)) = _
    rw [hk]
    rfl
  · show ((m.vis.set k w)[k]?.map fun v => (v.q, vcell v)) = _
    rw [List.getElem?_set_self hl, Option.map_some, hq]
  · cases t' with
    | vi x =>
      have q : x ≠ k := fun e => ht' (by rw [e])
      show ((m.vis.set k w)[x]?.map fun v => (v.q, vcell v)) = _
      rw [List.getElem?_set_ne (Ne.symm q)]
      rfl
    | th x =>
      show ((m.vis.set k w)[x]?.map fun v => (v.t, Cell.lst (Sd v.things))) = (m.vis[x]?.map fun v => (v.t, Cell.lst (Sd v.things)))
      by_cases q : x = k
      · subst q
        rw [List.getElem?_set_self hl, hk, Option.map_some, Option.map_some, ht, hs]
      · rw [List.getElem?_set_ne (Ne.symm q)]
    | gs =>
      show some (L.gs, Cell.lst (gsD (m.vis.set k w))) = some (L.gs, Cell.lst (gsD m.vis))
      unfold gsD
      rw [List.map_set, hq]
      congr 3
      exact set_own (by rw [List.getElem?_map, hk]; rfl)
    | _ => rfl
theorem FloorAt.setOwn (h : FloorAt L m S) {i a : Nat} {c0 : Cell} (hi : m.own[i]? = some (a, c0)) (c : Cell) : FloorAt L (m.setOwn i a c) (S.set a c) := by
  have hl := (List.getElem?_eq_some_iff.mp hi).1
  refine h.put (t := .own i) hi (List.getElem?_set_self hl) fun t' ht => ?_
  cases t' with
  | own x =>
    have q : x ≠ i := fun e => ht (by rw [e])
    exact List.getElem?_set_ne (Ne.symm q)
  | _ => rfl
theorem FloorAt.addOwn (h : FloorAt L m S) (c : Cell) : FloorAt L (m.addOwn S.length c) (S ++ [c]) := by
  refine h.new (t := .own m.own.length) (by show (m.own ++ [(S.length, c)])[m.own.length]? = _; simp) fun t' ht => ?_
  cases t' with
  | own x =>
    have q : x ≠ m.own.length := fun e => ht (by rw [e])
    show (m.own ++ [(S.length, c)])[x]? = m.own[x]?
    rw [List.getElem?_append]
    split
    · rfl
    · next hx =>
      rw [List.getElem?_eq_none (l := m.own) (by omega), List.getElem?_eq_none]
      simp
      omega
  | _ => rfl
theorem FloorAt.addVis (h : FloorAt L m S) {v : Vz} (hq : v.q = S.length) (ht : v.t = S.length + 1) : FloorAt L (m.addVis v) ((S ++ [vcell v, .lst (Sd v.things)]).set L.gs (.lst (gsD (m.vis ++ [v])))) := by
  have hg := h.lt (t := .gs) rfl
  have get : ∀ (x : Nat) (w : Vz), (m.vis ++ [v])[x]? = some w → m.vis[x]? = some w ∨ (x = m.vis.length ∧ w = v) := fun x w e => by
    rw [List.getElem?_append] at e
    split at e
    · exact .inl e
    · next hx =>
      have : x - m.vis.length = 0 := by
        have := (List.getElem?_eq_some_iff.mp e).1
        simp at this
        omega
      rw [this] at e
      cases e
      exact .inr ⟨by omega, rfl⟩
  have q0 : (S ++ [vcell v, Cell.lst (Sd v.things)])[S.length]? = some (vcell v) := by simp
  have q1 : (S ++ [vcell v, Cell.lst (Sd v.things)])[S.length + 1]? = some (.lst (Sd v.things)) := by simp
  have old : ∀ t a c, t ≠ .gs → cells L m t = some (a, c) → ((S ++ [vcell v, .lst (Sd v.things)]).set L.gs (.lst (gsD (m.vis ++ [v]))))[a]? = some c ∧ ((∃ c0, cells L m t = some (a, c0)) ∨ S.length ≤ a) := fun t a c hne e => by
    refine ⟨?_, .inl ⟨_, e⟩⟩
    rw [List.getElem?_set_ne (fun z => hne (by subst z; exact h.inj t .gs _ _ _ e rfl))]
    exact (h.push _).at_ _ _ _ e
  have key : ∀ t a c, cells L (m.addVis v) t = some (a, c) → (((S ++ [vcell v, .lst (Sd v.things)]).set L.gs (.lst (gsD (m.vis ++ [v]))))[a]? = some c ∧ ((∃ c0, cells L m t = some (a, c0)) ∨ S.length ≤ a)) ∧ (S.length ≤ a → (t = .vi m.vis.length ∧ a = S.length) ∨ (t = .th m.vis.length ∧ a = S.length + 1)) := fun t a c e => by
    have no : ∀ {c'}, cells L m t = some (a, c') → S.length ≤ a → (t = .vi m.vis.length ∧ a = S.length) ∨ (t = .th m.vis.length ∧ a = S.length + 1) := fun e' hl => by
      have := h.lt e'
      omega
    cases t with
    | gs =>
      cases e
      refine ⟨⟨st_get ((h.push _).at_ .gs _ _ rfl) _, .inl ⟨_, rfl⟩⟩, fun hl => ?_⟩
      omega
    | vi x =>
      have e' : ((m.vis ++ [v])[x]?.map fun v => (v.q, vcell v)) = some (a, c) := e
      obtain ⟨w, hw, e2⟩ := Option.map_eq_some_iff.mp e'
      rcases get x w hw with hw | ⟨hx, hw⟩
      · have e3 : cells L m (.vi x) = some (a, c) := by
          show (m.vis[x]?.map fun v => (v.q, vcell v)) = _
          rw [hw, Option.map_some, e2]
        exact ⟨old _ _ _ (by intro z; cases z) e3, no e3⟩
      · subst w
        subst x
        cases e2
        rw [hq]
        refine ⟨⟨?_, .inr (Nat.le_refl _)⟩, fun _ => .inl ⟨rfl, rfl⟩⟩
        rw [List.getElem?_set_ne (by omega)]
        exact q0
    | th x =>
      have e' : ((m.vis ++ [v])[x]?.map fun v => (v.t, Cell.lst (Sd v.things))) = some (a, c) := e
      obtain ⟨w, hw, e2⟩ := Option.map_eq_some_iff.mp e'
      rcases get x w hw with hw | ⟨hx, hw⟩
      · have e3 : cells L m (.th x) = some (a, c) := by
          show (m.vis[x]?.map fun v => (v.t, Cell.lst (Sd v.things))) = _
          rw [hw, Option.map_some, e2]
        exact ⟨old _ _ _ (by intro z; cases z) e3, no e3⟩
      · subst w
        subst x
        cases e2
        rw [ht]
        refine ⟨⟨?_, .inr (by omega)⟩, fun _ => .inr ⟨rfl, rfl⟩⟩
        rw [List.getElem?_set_ne (by omega)]
        exact q1
    | _ => exact ⟨old _ _ _ (by intro z; cases z) e, no e⟩
  refine h.step (fun t a c e => (key t a c e).1) fun t t' a c c' e e' hl => ?_
  rcases (key t a c e).2 hl with ⟨h1, h2⟩ | ⟨h1, h2⟩ <;> rcases (key t' a c' e').2 hl with ⟨h3, h4⟩ | ⟨h3, h4⟩
  · rw [h1, h3]
  · omega
  · omega
  · rw [h1, h3]
end
end

section
variable [en : Env] {L : Lay} {m : Fm} {S : List Cell}
def Lay.add (L : Lay) (n : Str) (a : Nat) : Lay := { L with pl := fun x => if x = n then a else L.pl x, rw := fun x => if x = n then a + 1 else L.rw x }
def Fm.addPl (m : Fm) (n : Str) (c : Cell) : Fm := { m with ns := m.ns ++ [n], plc := fun x => if x = n then c else m.plc x, rows := fun x => if x = n then [] else m.rows x }
def Fm.addK (m : Fm) (n : Str) (z : Int) : Fm := { m with ks := m.ks ++ [n], kz := fun x => if x = n then z else m.kz x }
def Fm.addP (m : Fm) (n : Str) (z : Int) : Fm := { m with ps := m.ps ++ [n], pz := fun x => if x = n then z else m.pz x }
theorem FloorAt.addK (h : FloorAt L m S) (n : Str) (z : Int) : FloorAt L (m.addK n z) (S.set L.rk (.dct (izD (m.ks ++ [n]) fun x => if x = n then z else m.kz x))) := by
  refine h.put (t := .rk) rfl rfl fun t' ht => ?_
  cases t' with
  | rk => exact absurd rfl ht
  | _ => rfl
theorem FloorAt.addP (h : FloorAt L m S) (n : Str) (z : Int) : FloorAt L (m.addP n z) (S.set L.po (.dct (izD (m.ps ++ [n]) fun x => if x = n then z else m.pz x))) := by
  refine h.put (t := .po) rfl rfl fun t' ht => ?_
  cases t' with
  | po => exact absurd rfl ht
  | _ => rfl
theorem FloorAt.addPl (h : FloorAt L m S) {n : Str} (hn : n ∉ m.ns) (c : Cell) : FloorAt (L.add n S.length) (m.addPl n c) ((((S ++ [c]).set L.sp (.dct (spD (L.add n S.length) (m.ns ++ [n])))) ++ [Cell.lst []]).set L.ro (.dct (roD (L.add n S.length) (m.ns ++ [n])))) := by
  have lsp := h.lt (t := .sp) rfl
  have lro := h.lt (t := .ro) rfl
  have nsr : L.sp ≠ L.ro := fun z => by
    have := h.inj .sp .ro L.sp _ _ rfl (by rw [z]; rfl)
    cases this
  have up : ∀ (a : Nat) (x : Cell), a < S.length → a ≠ L.sp → a ≠ L.ro → S[a]? = some x → ((((S ++ [c]).set L.sp (.dct (spD (L.add n S.length) (m.ns ++ [n])))) ++ [Cell.lst []]).set L.ro (.dct (roD (L.add n S.length) (m.ns ++ [n]))))[a]? = some x := fun a x hl h1 h2 e => by
    rw [List.getElem?_set_ne (Ne.symm h2), List.getElem?_append_left (by rw [List.length_set, List.length_append]; omega), List.getElem?_set_ne (Ne.symm h1), List.getElem?_append_left hl]
    exact e
  have key : ∀ t a x, cells (L.add n S.length) (m.addPl n c) t = some (a, x) → (((((S ++ [c]).set L.sp (.dct (spD (L.add n S.length) (m.ns ++ [n])))) ++ [Cell.lst []]).set L.ro (.dct (roD (L.add n S.length) (m.ns ++ [n]))))[a]? = some x ∧ ((∃ c0, cells L m t = some (a, c0)) ∨ S.length ≤ a)) ∧ (S.length ≤ a → (t = .pl n ∧ a = S.length) ∨ (t = .rw n ∧ a = S.length + 1)) := fun t a x e => by
    have no : ∀ {c'}, cells L m t = some (a, c') → S.length ≤ a → (t = .pl n ∧ a = S.length) ∨ (t = .rw n ∧ a = S.length + 1) := fun e' hl => by
      have := h.lt e'
      omega
    have old : t ≠ .sp → t ≠ .ro → cells L m t = some (a, x) → (((((S ++ [c]).set L.sp (.dct (spD (L.add n S.length) (m.ns ++ [n])))) ++ [Cell.lst []]).set L.ro (.dct (roD (L.add n S.length) (m.ns ++ [n]))))[a]? = some x ∧ ((∃ c0, cells L m t = some (a, c0)) ∨ S.length ≤ a)) ∧ (S.length ≤ a → (t = .pl n ∧ a = S.length) ∨ (t = .rw n ∧ a = S.length + 1)) := fun h1 h2 e' =>
      ⟨⟨up a x (h.lt e') (fun z => h1 (by subst z; exact h.inj t .sp _ _ _ e' rfl)) (fun z => h2 (by subst z; exact h.inj t .ro _ _ _ e' rfl)) (h.at_ _ _ _ e'), .inl ⟨_, e'⟩⟩, no e'⟩
    cases t with
    | sp =>
      cases e
      refine ⟨⟨?_, .inl ⟨_, rfl⟩⟩, no (c' := .dct (spD L m.ns)) rfl⟩
      show _[L.sp]? = _
      rw [List.getElem?_set_ne (Ne.symm nsr), List.getElem?_append_left (by rw [List.length_set, List.length_append]; exact Nat.lt_add_right _ lsp), List.getElem?_set_self (by rw [List.length_append]; exact Nat.lt_add_right _ lsp)]
      rfl
    | ro =>
      cases e
      refine ⟨⟨?_, .inl ⟨_, rfl⟩⟩, no (c' := .dct (roD L m.ns)) rfl⟩
      exact List.getElem?_set_self (by rw [List.length_append, List.length_set, List.length_append]; show L.ro < _; omega)
    | pl y =>
      have e' : (if y ∈ m.ns ++ [n] then some ((if y = n then S.length else L.pl y), (if y = n then c else m.plc y)) else none) = some (a, x) := e
      by_cases q : y = n
      · subst q
        rw [if_pos (by simp), if_pos rfl, if_pos rfl] at e'
        cases e'
        refine ⟨⟨?_, .inr (Nat.le_refl _)⟩, fun _ => .inl ⟨rfl, rfl⟩⟩
        rw [List.getElem?_set_ne (by omega), List.getElem?_append_left (by rw [List.length_set, List.length_append]; simp), List.getElem?_set_ne (by omega)]
        simp
      · rw [if_neg q, if_neg q] at e'
        split at e'
        · next hy =>
          have hy' : y ∈ m.ns := by
            rcases List.mem_append.mp hy with z | z
            · exact z
            · exact absurd (by simpa using z) q
          exact old (by intro z; cases z) (by intro z; cases z) (by show (if y ∈ m.ns then some (L.pl y, m.plc y) else none) = _; rw [if_pos hy']; exact e')
        · cases e'
    | rw y =>
      have e' : (if y ∈ m.ns ++ [n] then some ((if y = n then S.length + 1 else L.rw y), Cell.lst ((if y = n then [] else m.rows y).map I)) else none) = some (a, x) := e
      by_cases q : y = n
      · subst q
        rw [if_pos (by simp), if_pos rfl, if_pos rfl] at e'
        cases e'
        refine ⟨⟨?_, .inr (by omega)⟩, fun _ => .inr ⟨rfl, rfl⟩⟩
        rw [List.getElem?_set_ne (by omega), List.getElem?_append_right (by rw [List.length_set, List.length_append]; simp), List.length_set, List.length_append]
        simp
      · rw [if_neg q, if_neg q] at e'
        split at e'
        · next hy =>
          have hy' : y ∈ m.ns := by
            rcases List.mem_append.mp hy with z | z
            · exact z
            · exact absurd (by simpa using z) q
          exact old (by intro z; cases z) (by intro z; cases z) (by show (if y ∈ m.ns then some (L.rw y, Cell.lst ((m.rows y).map I)) else none) = _; rw [if_pos hy']; exact e')
        · cases e'
    | _ => exact old (by intro z; cases z) (by intro z; cases z) e
  refine h.step (fun t a x e => (key t a x e).1) fun t t' a x x' e e' hl => ?_
  rcases (key t a x e).2 hl with ⟨h1, h2⟩ | ⟨h1, h2⟩ <;> rcases (key t' a x' e').2 hl with ⟨h3, h4⟩ | ⟨h3, h4⟩
  · rw [h1, h3]
  · omega
  · omega
  · rw [h1, h3]
def fm0 (O : List (Nat × Cell)) : Fm := { ns := [], plc := fun _ => .gone, rows := fun _ => [], ps := [], pz := fun _ => 0, ks := [], kz := fun _ => 0, vis := [], own := O }
def lay0 (a : Nat) : Lay := { f := a, sp := a + 1, ro := a + 2, po := a + 3, rk := a + 4, gs := a + 5, pl := fun _ => 0, rw := fun _ => 0 }
theorem floor0 (S : List Cell) (O : List (Nat × Cell)) (hO : ∀ (i a : Nat) (c : Cell), O[i]? = some (a, c) → S[a]? = some c) (hI : ∀ (i j a : Nat) (c c' : Cell), O[i]? = some (a, c) → O[j]? = some (a, c') → i = j) :
    FloorAt (lay0 S.length) (fm0 O) (S ++ [.ins Env.Floor (FFL (lay0 S.length)), .dct [], .dct [], .dct [], .dct [], .lst []]) := by
  have lt : ∀ i a c, O[i]? = some (a, c) → a < S.length := fun i a c e => (List.getElem?_eq_some_iff.mp (hO i a c e)).1
  have nn : ∀ (t : Tag) (n : Str) a c, t = .pl n ∨ t = .rw n → cells (lay0 S.length) (fm0 O) t = some (a, c) → False := fun t n a c ht e => by
    rcases ht with rfl | rfl <;> simp [cells, fm0] at e
  have nv : ∀ (t : Tag) (k : Nat) a c, t = .vi k ∨ t = .th k → cells (lay0 S.length) (fm0 O) t = some (a, c) → False := fun t k a c ht e => by
    rcases ht with rfl | rfl <;> simp [cells, fm0] at e
  refine ⟨fun t a c e => ?_, fun t t' a c c' e e' => ?_⟩
  · cases t with
    | f => cases e; simp [lay0]
    | sp => cases e; simp [lay0, fm0, spD]
    | ro => cases e; simp [lay0, fm0, roD]
    | po => cases e; simp [lay0, fm0, izD]
    | rk => cases e; simp [lay0, fm0, izD]
    | gs => cases e; simp [lay0, fm0, gsD]
    | pl n => exact (nn _ n a c (.inl rfl) e).elim
    | rw n => exact (nn _ n a c (.inr rfl) e).elim
    | vi n => exact (nv _ n a c (.inl rfl) e).elim
    | th n => exact (nv _ n a c (.inr rfl) e).elim
    | own i =>
      rw [List.getElem?_append_left (lt i a c e)]
      exact hO i a c e
  · have num : ∀ t a c, cells (lay0 S.length) (fm0 O) t = some (a, c) → (∃ i, t = .own i ∧ O[i]? = some (a, c)) ∨ (t = .f ∧ a = S.length) ∨ (t = .sp ∧ a = S.length + 1) ∨ (t = .ro ∧ a = S.length + 2) ∨ (t = .po ∧ a = S.length + 3) ∨ (t = .rk ∧ a = S.length + 4) ∨ (t = .gs ∧ a = S.length + 5) := fun t a c e => by
      cases t with
      | f => cases e; simp [lay0]
      | sp => cases e; simp [lay0]
      | ro => cases e; simp [lay0]
      | po => cases e; simp [lay0]
      | rk => cases e; simp [lay0]
      | gs => cases e; simp [lay0]
      | pl n => exact (nn _ n a c (.inl rfl) e).elim
      | rw n => exact (nn _ n a c (.inr rfl) e).elim
      | vi n => exact (nv _ n a c (.inl rfl) e).elim
      | th n => exact (nv _ n a c (.inr rfl) e).elim
      | own i => exact .inl ⟨i, rfl, e⟩
    rcases num t a c e with ⟨i, h1, h2⟩ | h1
    · rcases num t' a c' e' with ⟨j, h3, h4⟩ | h3
      · rw [h1, h3, hI i j a c c' h2 h4]
      · have := lt i a c h2
        omega
    · rcases num t' a c' e' with ⟨j, h3, h4⟩ | h3
      · have := lt j a c' h4
        omega
      · rcases h1 with ⟨x, y⟩ | ⟨x, y⟩ | ⟨x, y⟩ | ⟨x, y⟩ | ⟨x, y⟩ | ⟨x, y⟩ <;> rcases h3 with ⟨z, w⟩ | ⟨z, w⟩ | ⟨z, w⟩ | ⟨z, w⟩ | ⟨z, w⟩ | ⟨z, w⟩ <;> first | (exfalso; omega) | (rw [x, z])
end

section
variable [en : Env]
theorem lkFo (L : Lay) : (FFL L).lookup ("change" : Str) = none := rfl
theorem lkFp (L : Lay) : (FFL L).lookup ("clock" : Str) = none := rfl
theorem mC_Place_called : Env.Place ∈ Cs_called := by simp [Cs_called]
theorem mC_Passing_called : Env.Passing ∈ Cs_called := by simp [Cs_called]
theorem mC_DeskPlace_called : Env.DeskPlace ∈ Cs_called := by simp [Cs_called]
theorem mC_Visitor_called : Env.Visitor ∈ Cs_called := by simp [Cs_called]
theorem mC_Passing_then : Env.Passing ∈ Cs_then := by simp [Cs_then]
theorem mC_DeskPlace_then : Env.DeskPlace ∈ Cs_then := by simp [Cs_then]
theorem mC_DeskPlace_hands : Env.DeskPlace ∈ Cs_hands := by simp [Cs_hands]
theorem mC_DeskPlace_takes : Env.DeskPlace ∈ Cs_takes := by simp [Cs_takes]
theorem mC_DeskPlace_is_ranked : Env.DeskPlace ∈ Cs_is_ranked := by simp [Cs_is_ranked]
theorem mC_DeskPlace_rests : Env.DeskPlace ∈ Cs_rests := by simp [Cs_rests]
theorem mC_DeskPlace_begun : Env.DeskPlace ∈ Cs_begun := by simp [Cs_begun]
theorem mC_Visitor_since : Env.Visitor ∈ Cs_since := by simp [Cs_since]
theorem mC_Visitor_until : Env.Visitor ∈ Cs_until := by simp [Cs_until]
theorem mC_Visitor_things : Env.Visitor ∈ Cs_things := by simp [Cs_things]
theorem mC_Visitor_grade : Env.Visitor ∈ Cs_grade := by simp [Cs_grade]
theorem mC_Floor_guests : Env.Floor ∈ Cs_guests := by simp [Cs_guests]
theorem mC_Floor_rows : Env.Floor ∈ Cs_rows := by simp [Cs_rows]
theorem mC_Floor_spots : Env.Floor ∈ Cs_spots := by simp [Cs_spots]
theorem mC_Floor_ranks : Env.Floor ∈ Cs_ranks := by simp [Cs_ranks]
theorem mC_Floor_pools : Env.Floor ∈ Cs_pools := by simp [Cs_pools]
theorem nE_Place_Passing : (Env.Place == Env.Passing) = false := by
  have := en.nd
  simp only [List.nodup_cons, List.mem_cons, List.not_mem_nil, or_false, not_or] at this
  exact beq_eq_false_iff_ne.mpr fun e => by
    simp [e] at this
theorem nE_Place_DeskPlace : (Env.Place == Env.DeskPlace) = false := by
  have := en.nd
  simp only [List.nodup_cons, List.mem_cons, List.not_mem_nil, or_false, not_or] at this
  exact beq_eq_false_iff_ne.mpr fun e => by
    simp [e] at this
theorem nE_Place_Visitor : (Env.Place == Env.Visitor) = false := by
  have := en.nd
  simp only [List.nodup_cons, List.mem_cons, List.not_mem_nil, or_false, not_or] at this
  exact beq_eq_false_iff_ne.mpr fun e => by
    simp [e] at this
theorem nE_Place_Floor : (Env.Place == Env.Floor) = false := by
  have := en.nd
  simp only [List.nodup_cons, List.mem_cons, List.not_mem_nil, or_false, not_or] at this
  exact beq_eq_false_iff_ne.mpr fun e => by
    simp [e] at this
theorem nE_Passing_Place : (Env.Passing == Env.Place) = false := by
  have := en.nd
  simp only [List.nodup_cons, List.mem_cons, List.not_mem_nil, or_false, not_or] at this
  exact beq_eq_false_iff_ne.mpr fun e => by
    simp [e] at this
theorem nE_Passing_DeskPlace : (Env.Passing == Env.DeskPlace) = false := by
  have := en.nd
  simp only [List.nodup_cons, List.mem_cons, List.not_mem_nil, or_false, not_or] at this
  exact beq_eq_false_iff_ne.mpr fun e => by
    simp [e] at this
theorem nE_Passing_Visitor : (Env.Passing == Env.Visitor) = false := by
  have := en.nd
  simp only [List.nodup_cons, List.mem_cons, List.not_mem_nil, or_false, not_or] at this
  exact beq_eq_false_iff_ne.mpr fun e => by
    simp [e] at this
theorem nE_Passing_Floor : (Env.Passing == Env.Floor) = false := by
  have := en.nd
  simp only [List.nodup_cons, List.mem_cons, List.not_mem_nil, or_false, not_or] at this
  exact beq_eq_false_iff_ne.mpr fun e => by
    simp [e] at this
theorem nE_DeskPlace_Place : (Env.DeskPlace == Env.Place) = false := by
  have := en.nd
  simp only [List.nodup_cons, List.mem_cons, List.not_mem_nil, or_false, not_or] at this
  exact beq_eq_false_iff_ne.mpr fun e => by
    simp [e] at this
theorem nE_DeskPlace_Passing : (Env.DeskPlace == Env.Passing) = false := by
  have := en.nd
  simp only [List.nodup_cons, List.mem_cons, List.not_mem_nil, or_false, not_or] at this
  exact beq_eq_false_iff_ne.mpr fun e => by
    simp [e] at this
theorem nE_DeskPlace_Visitor : (Env.DeskPlace == Env.Visitor) = false := by
  have := en.nd
  simp only [List.nodup_cons, List.mem_cons, List.not_mem_nil, or_false, not_or] at this
  exact beq_eq_false_iff_ne.mpr fun e => by
    simp [e] at this
theorem nE_DeskPlace_Floor : (Env.DeskPlace == Env.Floor) = false := by
  have := en.nd
  simp only [List.nodup_cons, List.mem_cons, List.not_mem_nil, or_false, not_or] at this
  exact beq_eq_false_iff_ne.mpr fun e => by
    simp [e] at this
theorem nE_Visitor_Place : (Env.Visitor == Env.Place) = false := by
  have := en.nd
  simp only [List.nodup_cons, List.mem_cons, List.not_mem_nil, or_false, not_or] at this
  exact beq_eq_false_iff_ne.mpr fun e => by
    simp [e] at this
theorem nE_Visitor_Passing : (Env.Visitor == Env.Passing) = false := by
  have := en.nd
  simp only [List.nodup_cons, List.mem_cons, List.not_mem_nil, or_false, not_or] at this
  exact beq_eq_false_iff_ne.mpr fun e => by
    simp [e] at this
theorem nE_Visitor_DeskPlace : (Env.Visitor == Env.DeskPlace) = false := by
  have := en.nd
  simp only [List.nodup_cons, List.mem_cons, List.not_mem_nil, or_false, not_or] at this
  exact beq_eq_false_iff_ne.mpr fun e => by
    simp [e] at this
theorem nE_Visitor_Floor : (Env.Visitor == Env.Floor) = false := by
  have := en.nd
  simp only [List.nodup_cons, List.mem_cons, List.not_mem_nil, or_false, not_or] at this
  exact beq_eq_false_iff_ne.mpr fun e => by
    simp [e] at this
theorem nE_Floor_Place : (Env.Floor == Env.Place) = false := by
  have := en.nd
  simp only [List.nodup_cons, List.mem_cons, List.not_mem_nil, or_false, not_or] at this
  exact beq_eq_false_iff_ne.mpr fun e => by
    simp [e] at this
theorem nE_Floor_Passing : (Env.Floor == Env.Passing) = false := by
  have := en.nd
  simp only [List.nodup_cons, List.mem_cons, List.not_mem_nil, or_false, not_or] at this
  exact beq_eq_false_iff_ne.mpr fun e => by
    simp [e] at this
theorem nE_Floor_DeskPlace : (Env.Floor == Env.DeskPlace) = false := by
  have := en.nd
  simp only [List.nodup_cons, List.mem_cons, List.not_mem_nil, or_false, not_or] at this
  exact beq_eq_false_iff_ne.mpr fun e => by
    simp [e] at this
theorem nE_Floor_Visitor : (Env.Floor == Env.Visitor) = false := by
  have := en.nd
  simp only [List.nodup_cons, List.mem_cons, List.not_mem_nil, or_false, not_or] at this
  exact beq_eq_false_iff_ne.mpr fun e => by
    simp [e] at this
def XF (n : Str) : List (Str × D) := [("called", .v (.str n))]
theorem lkXF_called (n : Str) : (XF n).lookup ("called" : Str) = some (.v (.str n)) := rfl
theorem lkXF_then (n : Str) : (XF n).lookup ("then" : Str) = none := rfl
theorem lkXF_takes (n : Str) : (XF n).lookup ("takes" : Str) = none := rfl
theorem lkXF_hands (n : Str) : (XF n).lookup ("hands" : Str) = none := rfl
theorem lkXF_is_ranked (n : Str) : (XF n).lookup ("is_ranked" : Str) = none := rfl
theorem lkXF_rests (n : Str) : (XF n).lookup ("rests" : Str) = none := rfl
theorem lkXF_begun (n : Str) : (XF n).lookup ("begun" : Str) = none := rfl
theorem lkXF_pool (n : Str) : (XF n).lookup ("pool" : Str) = none := rfl
theorem lkXF_rule (n : Str) : (XF n).lookup ("rule" : Str) = none := rfl
theorem lkXF_goals (n : Str) : (XF n).lookup ("goals" : Str) = none := rfl
theorem lkXF_moved (n : Str) : (XF n).lookup ("moved" : Str) = none := rfl
theorem lkXF_can (n : Str) : (XF n).lookup ("can" : Str) = none := rfl
theorem lkXF_moves (n : Str) : (XF n).lookup ("moves" : Str) = none := rfl
theorem lkXF_clock (n : Str) : (XF n).lookup ("clock" : Str) = none := rfl
theorem lkXF_change (n : Str) : (XF n).lookup ("change" : Str) = none := rfl
theorem lkXF_first (n : Str) : (XF n).lookup ("first" : Str) = none := rfl
theorem lkXF_served (n : Str) : (XF n).lookup ("served" : Str) = none := rfl
theorem lkXF_rests_at (n : Str) : (XF n).lookup ("rests_at" : Str) = none := rfl
theorem lkXF_chosen (n : Str) : (XF n).lookup ("chosen" : Str) = none := rfl
theorem lkXF_is_open (n : Str) : (XF n).lookup ("is_open" : Str) = none := rfl
theorem lnXF (n : Str) : (XF n).length = 1 := rfl
def DF (n th : Str) : List (Str × D) := [("called", .v (.str n)), ("then", .v (.str th))]
theorem lkDF_called (n th : Str) : (DF n th).lookup ("called" : Str) = some (.v (.str n)) := rfl
theorem lkDF_then (n th : Str) : (DF n th).lookup ("then" : Str) = some (.v (.str th)) := rfl
theorem lkDF_takes (n th : Str) : (DF n th).lookup ("takes" : Str) = none := rfl
theorem lkDF_hands (n th : Str) : (DF n th).lookup ("hands" : Str) = none := rfl
theorem lkDF_is_ranked (n th : Str) : (DF n th).lookup ("is_ranked" : Str) = none := rfl
theorem lkDF_rests (n th : Str) : (DF n th).lookup ("rests" : Str) = none := rfl
theorem lkDF_begun (n th : Str) : (DF n th).lookup ("begun" : Str) = none := rfl
theorem lkDF_pool (n th : Str) : (DF n th).lookup ("pool" : Str) = none := rfl
theorem lkDF_rule (n th : Str) : (DF n th).lookup ("rule" : Str) = none := rfl
theorem lkDF_goals (n th : Str) : (DF n th).lookup ("goals" : Str) = none := rfl
theorem lkDF_moved (n th : Str) : (DF n th).lookup ("moved" : Str) = none := rfl
theorem lkDF_can (n th : Str) : (DF n th).lookup ("can" : Str) = none := rfl
theorem lkDF_moves (n th : Str) : (DF n th).lookup ("moves" : Str) = none := rfl
theorem lkDF_clock (n th : Str) : (DF n th).lookup ("clock" : Str) = none := rfl
theorem lkDF_change (n th : Str) : (DF n th).lookup ("change" : Str) = none := rfl
theorem lkDF_first (n th : Str) : (DF n th).lookup ("first" : Str) = none := rfl
theorem lkDF_served (n th : Str) : (DF n th).lookup ("served" : Str) = none := rfl
theorem lkDF_rests_at (n th : Str) : (DF n th).lookup ("rests_at" : Str) = none := rfl
theorem lkDF_chosen (n th : Str) : (DF n th).lookup ("chosen" : Str) = none := rfl
theorem lkDF_is_open (n th : Str) : (DF n th).lookup ("is_open" : Str) = none := rfl
theorem lnDF (n th : Str) : (DF n th).length = 2 := rfl
def KF (n th : Str) (hd : Int) (tk : D) (rk : Bool) (rs : D) (bg : Int) : List (Str × D) := [("called", .v (.str n)), ("then", .v (.str th)), ("hands", .v (.int hd)), ("takes", tk), ("is_ranked", .v (.bl rk)), ("rests", rs), ("begun", .v (.int bg))]
theorem lkKF_called (n th : Str) (hd : Int) (tk : D) (rk : Bool) (rs : D) (bg : Int) : (KF n th hd tk rk rs bg).lookup ("called" : Str) = some (.v (.str n)) := rfl
theorem lkKF_then (n th : Str) (hd : Int) (tk : D) (rk : Bool) (rs : D) (bg : Int) : (KF n th hd tk rk rs bg).lookup ("then" : Str) = some (.v (.str th)) := rfl
theorem lkKF_takes (n th : Str) (hd : Int) (tk : D) (rk : Bool) (rs : D) (bg : Int) : (KF n th hd tk rk rs bg).lookup ("takes" : Str) = some (tk) := rfl
theorem lkKF_hands (n th : Str) (hd : Int) (tk : D) (rk : Bool) (rs : D) (bg : Int) : (KF n th hd tk rk rs bg).lookup ("hands" : Str) = some (.v (.int hd)) := rfl
theorem lkKF_is_ranked (n th : Str) (hd : Int) (tk : D) (rk : Bool) (rs : D) (bg : Int) : (KF n th hd tk rk rs bg).lookup ("is_ranked" : Str) = some (.v (.bl rk)) := rfl
theorem lkKF_rests (n th : Str) (hd : Int) (tk : D) (rk : Bool) (rs : D) (bg : Int) : (KF n th hd tk rk rs bg).lookup ("rests" : Str) = some (rs) := rfl
theorem lkKF_begun (n th : Str) (hd : Int) (tk : D) (rk : Bool) (rs : D) (bg : Int) : (KF n th hd tk rk rs bg).lookup ("begun" : Str) = some (.v (.int bg)) := rfl
theorem lkKF_pool (n th : Str) (hd : Int) (tk : D) (rk : Bool) (rs : D) (bg : Int) : (KF n th hd tk rk rs bg).lookup ("pool" : Str) = none := rfl
theorem lkKF_rule (n th : Str) (hd : Int) (tk : D) (rk : Bool) (rs : D) (bg : Int) : (KF n th hd tk rk rs bg).lookup ("rule" : Str) = none := rfl
theorem lkKF_goals (n th : Str) (hd : Int) (tk : D) (rk : Bool) (rs : D) (bg : Int) : (KF n th hd tk rk rs bg).lookup ("goals" : Str) = none := rfl
theorem lkKF_moved (n th : Str) (hd : Int) (tk : D) (rk : Bool) (rs : D) (bg : Int) : (KF n th hd tk rk rs bg).lookup ("moved" : Str) = none := rfl
theorem lkKF_can (n th : Str) (hd : Int) (tk : D) (rk : Bool) (rs : D) (bg : Int) : (KF n th hd tk rk rs bg).lookup ("can" : Str) = none := rfl
theorem lkKF_moves (n th : Str) (hd : Int) (tk : D) (rk : Bool) (rs : D) (bg : Int) : (KF n th hd tk rk rs bg).lookup ("moves" : Str) = none := rfl
theorem lkKF_clock (n th : Str) (hd : Int) (tk : D) (rk : Bool) (rs : D) (bg : Int) : (KF n th hd tk rk rs bg).lookup ("clock" : Str) = none := rfl
theorem lkKF_change (n th : Str) (hd : Int) (tk : D) (rk : Bool) (rs : D) (bg : Int) : (KF n th hd tk rk rs bg).lookup ("change" : Str) = none := rfl
theorem lkKF_first (n th : Str) (hd : Int) (tk : D) (rk : Bool) (rs : D) (bg : Int) : (KF n th hd tk rk rs bg).lookup ("first" : Str) = none := rfl
theorem lkKF_served (n th : Str) (hd : Int) (tk : D) (rk : Bool) (rs : D) (bg : Int) : (KF n th hd tk rk rs bg).lookup ("served" : Str) = none := rfl
theorem lkKF_rests_at (n th : Str) (hd : Int) (tk : D) (rk : Bool) (rs : D) (bg : Int) : (KF n th hd tk rk rs bg).lookup ("rests_at" : Str) = none := rfl
theorem lkKF_chosen (n th : Str) (hd : Int) (tk : D) (rk : Bool) (rs : D) (bg : Int) : (KF n th hd tk rk rs bg).lookup ("chosen" : Str) = none := rfl
theorem lkKF_is_open (n th : Str) (hd : Int) (tk : D) (rk : Bool) (rs : D) (bg : Int) : (KF n th hd tk rk rs bg).lookup ("is_open" : Str) = none := rfl
theorem lnKF (n th : Str) (hd : Int) (tk : D) (rk : Bool) (rs : D) (bg : Int) : (KF n th hd tk rk rs bg).length = 7 := rfl
def nxS : Sta → Str
  | .doorA _ _ _ t => t
  | .doorD _ _ _ _ _ _ _ t => t
  | .way _ _ t => t
  | .desk _ _ _ _ _ t => t
  | .opens _ _ _ t => t
  | .below _ _ _ t => t
  | .lend _ _ t => t
  | .give _ _ t => t
  | s => s.name
def rnkS : Sta → Int
  | .doorA _ r _ _ => r
  | .doorD _ r _ _ _ _ _ _ => r
  | _ => 0
/-- the kinds at hand -/
def hereS : Sta → Bool
  | .pool _ _ => true
  | .exit _ => true
  | .doorA _ _ _ _ => true
  | .doorD _ _ _ _ _ _ _ _ => true
  | .desk _ _ _ _ _ _ => true
  | _ => false
/-- a station at work: told, and how many services, moves -/
def plcS : Sta → Int → Cell
  | .doorA n _ _ t, _ => .ins Env.Passing (DF n t)
  | .doorD n _ _ _ _ _ _ t, _ => .ins Env.Passing (DF n t)
  | .exit n, _ => .ins Env.Place (XF n)
  | .desk n h ts k rs t, c => .ins Env.DeskPlace (KF n t h (.tup (ts.map I)) k (.tup (rs.map pD)) c)
  | _, _ => .gone
end
section
end
section
variable [en : Env]
theorem FloorAt.ne {L : Lay} {m : Fm} {S : List Cell} (h : FloorAt L m S) {t t' : Tag} {a b : Nat} {c c' : Cell} (e : cells L m t = some (a, c)) (e' : cells L m t' = some (b, c')) (hne : t ≠ t') : a ≠ b := fun z => by
  subst z
  exact hne (h.inj _ _ _ _ _ e e')
end
section
variable [en : Env]
def Fm.setPl (m : Fm) (n : Str) (c : Cell) : Fm := { m with plc := fun x => if x = n then c else m.plc x }
theorem FloorAt.setPl {L : Lay} {m : Fm} {S : List Cell} (h : FloorAt L m S) {n : Str} (hn : n ∈ m.ns) (c : Cell) : FloorAt L (m.setPl n c) (S.set (L.pl n) c) := by
  refine h.put (t := .pl n) (if_pos hn) ?_ fun t' ht => ?_
  · show (if n ∈ m.ns then some (L.pl n, (if n = n then c else m.plc n)) else none) = _
    rw [if_pos hn, if_pos rfl]
  · cases t' with
    | pl x =>
      have q : x ≠ n := fun e => ht (by rw [e])
      show (if x ∈ m.ns then some (L.pl x, (if x = n then c else m.plc x)) else none) = _
      rw [if_neg q]
      rfl
    | _ => rfl
/-- who waits -/
def tilW (m : Fm) (x : Int) : Bool := match m.vis[x.toNat]? with
  | some v => v.til.isNone
  | none => true
def grd (m : Fm) (x : Int) : Int := match m.vis[x.toNat]? with
  | some v => v.grade
  | none => 0
def RowIn (m : Fm) (n : Str) : Prop := ∀ x ∈ m.rows n, ∃ (k : Nat) (v : Vz), x = ((k : Nat) : Int) ∧ m.vis[k]? = some v
def waitL (m : Fm) (n : Str) : List Int := (m.rows n).filter (tilW m)
def servN (m : Fm) (n : Str) : Nat := ((m.rows n).filter fun x => !tilW m x).length
def fstL (m : Fm) (n : Str) (rk : Bool) : Option Int := match waitL m n with
  | [] => none
  | x :: r => some (if rk then mxG (grd m) x r else x)
def restB (rs : List (Int × Int)) (z : Int) : Bool := rs.any fun p => decide (p.1 ≤ z) && decide (z < p.2)
def fstD : Option Int → D
  | none => .v .non
  | some x => .v (.int x)
end
section
variable {P : Program} {w : World} {K : PySem.W.Frag} {mg : Str → Option Value} {base : Heap} [en : Env]
abbrev sDeskPlace_change : Stmt := (inClass (top 5) 7)
abbrev NDeskPlace_change : List Str := ["self", "change"]
theorem scDeskPlace_change : FnScope NDeskPlace_change ["self", "change"] (defScope sDeskPlace_change) := ⟨rfl, rfl, rfl, by decide +kernel, rfl, by decide +kernel, by decide +kernel⟩
noncomputable def den_DeskPlace_change : M Fl :=
    (dIfS (dCmpT (gEq false) (okD (dOp gIx (dVar 1) (dC (.int 0)))) (dC (.str "hands"))) (dSetFA Cs_hands "hands" (dOp gIx (dVar 1) (dC (.int 2))) (dVar 0)) (dSetFA Cs_takes "takes" (dOp gIx (dVar 1) (dC (.int 2))) (dVar 0)))
theorem raw_DeskPlace_change (T : Tx K mg Env.Place Env.Passing Env.DeskPlace Env.Visitor Env.Floor Env.cl_DeskPlace_first Env.tl_DeskPlace_first) {f : Addr} {fd : FuncData} (F : Fun K "change" "DeskPlace.change" sDeskPlace_change f fd) : FnOk P w K mg base (L2N.CX P w) 1 f fd ["self", "change"] (spG K (runD 2 2 den_DeskPlace_change)) := by
  have sc := scDeskPlace_change
  exact fn_ok (N := NDeskPlace_change) F sc rfl (by decide) fun cdv A outer s H E hr => ⟨_, ((bd_one (sd_if (td_cmp (cEq hr.units) (DD.e (dd_ix (ed_var 1) ed_int (fun _ _ => rfl))) ed_str (nomark _)) (bd_one (sd_fldA (fa_hands T) (ed_var 0) (dd_ix (ed_var 1) ed_int (fun _ _ => rfl)))) (bd_one (sd_fldA (fa_takes T) (ed_var 0) (dd_ix (ed_var 1) ed_int (fun _ _ => rfl)))))) : BD _ _ _ _ den_DeskPlace_change)⟩
noncomputable def g_DeskPlace_change : G := runD 2 2 den_DeskPlace_change
theorem eq_DeskPlace_change : ∀ ds S, g_DeskPlace_change ds S ≠ .no → runD 2 2 den_DeskPlace_change ds S = g_DeskPlace_change ds S := fun _ _ _ => rfl
theorem dchg_hands {L : Lay} {m : Fm} {S : List Cell} (h : FloorAt L m S) {n : Str} (hn : n ∈ m.ns) {th : Str} {hd bg : Int} {tk rs : D} {rk : Bool} (hp : m.plc n = .ins Env.DeskPlace (KF n th hd tk rk rs bg)) (z : Int) : ∃ S', g_DeskPlace_change [.loc (L.pl n), .tup [.v (.str "hands"), .v (.str n), .v (.int z)]] S = .ok (.v .non) S' ∧ FloorAt L (m.setPl n (.ins Env.DeskPlace (KF n th z tk rk rs bg))) S' := by
  have h1 := h.setPl (n := n) hn (.ins Env.DeskPlace (KF n th z tk rk rs bg))
  refine ⟨_, ?_, h1⟩
  have gp := h.gpl hn
  rw [hp] at gp
  have pf : putFD "hands" (.v (.int z)) (KF n th hd tk rk rs bg) = KF n th z tk rk rs bg := rfl
  have q0 : ∀ a b u : D, atI [a, b, u] 0 = some a := fun _ _ _ => rfl
  have q2 : ∀ a b u : D, atI [a, b, u] 2 = some u := fun _ _ _ => rfl
  simp_arith [g_DeskPlace_change, den_DeskPlace_change, dFldA, dSetFA, dMethL, dMeth, insA, insD, dRGet, rdcD, dctD, keyD, dSt, dDAug, rol, spl, izl, gsl, Sdl, vcell, tilD, dFldAug, lkV1, lkV2, lkV3, lkV4, lkV5, ptV1, ptV2, ptV3, lnV, lkF1, lkF2, lkF3, lkF4, lkF5, lkFa, lkFb, lkFc, lkFd, lkFe, lkFf, lkFg, lkFh, lkFi, lkFj, lkFk, lkFl, lkFm, lkFn, lkFo, lkFp, mC_Place_called, mC_Passing_called, mC_DeskPlace_called, mC_Visitor_called, mC_Passing_then, mC_DeskPlace_then, mC_DeskPlace_hands, mC_DeskPlace_takes, mC_DeskPlace_is_ranked, mC_DeskPlace_rests, mC_DeskPlace_begun, mC_Visitor_since, mC_Visitor_until, mC_Visitor_things, mC_Visitor_grade, mC_Floor_guests, mC_Floor_rows, mC_Floor_spots, mC_Floor_ranks, mC_Floor_pools, lkXF_called, lkXF_then, lkXF_takes, lkXF_hands, lkXF_is_ranked, lkXF_rests, lkXF_begun, lkXF_pool, lkXF_rule, lkXF_goals, lkXF_moved, lkXF_can, lkXF_moves, lkXF_clock, lkXF_change, lkXF_first, lkXF_served, lkXF_rests_at, lkXF_chosen, lkXF_is_open, lnXF, lkDF_called, lkDF_then, lkDF_takes, lkDF_hands, lkDF_is_ranked, lkDF_rests, lkDF_begun, lkDF_pool, lkDF_rule, lkDF_goals, lkDF_moved, lkDF_can, lkDF_moves, lkDF_clock, lkDF_change, lkDF_first, lkDF_served, lkDF_rests_at, lkDF_chosen, lkDF_is_open, lnDF, lkKF_called, lkKF_then, lkKF_takes, lkKF_hands, lkKF_is_ranked, lkKF_rests, lkKF_begun, lkKF_pool, lkKF_rule, lkKF_goals, lkKF_moved, lkKF_can, lkKF_moves, lkKF_clock, lkKF_change, lkKF_first, lkKF_served, lkKF_rests_at, lkKF_chosen, lkKF_is_open, lnKF, gp, q0, q2, pf]
theorem dchg_takes {L : Lay} {m : Fm} {S : List Cell} (h : FloorAt L m S) {n : Str} (hn : n ∈ m.ns) {th : Str} {hd bg : Int} {tk rs : D} {rk : Bool} (hp : m.plc n = .ins Env.DeskPlace (KF n th hd tk rk rs bg)) (tt : D) : ∃ S', g_DeskPlace_change [.loc (L.pl n), .tup [.v (.str "takes"), .v (.str n), tt]] S = .ok (.v .non) S' ∧ FloorAt L (m.setPl n (.ins Env.DeskPlace (KF n th hd tt rk rs bg))) S' := by
  have h1 := h.setPl (n := n) hn (.ins Env.DeskPlace (KF n th hd tt rk rs bg))
  refine ⟨_, ?_, h1⟩
  have gp := h.gpl hn
  rw [hp] at gp
  have pf : putFD "takes" tt (KF n th hd tk rk rs bg) = KF n th hd tt rk rs bg := rfl
  have q0 : ∀ a b u : D, atI [a, b, u] 0 = some a := fun _ _ _ => rfl
  have q2 : ∀ a b u : D, atI [a, b, u] 2 = some u := fun _ _ _ => rfl
  have ne : (("takes" : Str) = "hands") = False := eq_false (by decide +kernel)
  simp_arith [g_DeskPlace_change, den_DeskPlace_change, dFldA, dSetFA, dMethL, dMeth, insA, insD, dRGet, rdcD, dctD, keyD, dSt, dDAug, rol, spl, izl, gsl, Sdl, vcell, tilD, dFldAug, lkV1, lkV2, lkV3, lkV4, lkV5, ptV1, ptV2, ptV3, lnV, lkF1, lkF2, lkF3, lkF4, lkF5, lkFa, lkFb, lkFc, lkFd, lkFe, lkFf, lkFg, lkFh, lkFi, lkFj, lkFk, lkFl, lkFm, lkFn, lkFo, lkFp, mC_Place_called, mC_Passing_called, mC_DeskPlace_called, mC_Visitor_called, mC_Passing_then, mC_DeskPlace_then, mC_DeskPlace_hands, mC_DeskPlace_takes, mC_DeskPlace_is_ranked, mC_DeskPlace_rests, mC_DeskPlace_begun, mC_Visitor_since, mC_Visitor_until, mC_Visitor_things, mC_Visitor_grade, mC_Floor_guests, mC_Floor_rows, mC_Floor_spots, mC_Floor_ranks, mC_Floor_pools, lkXF_called, lkXF_then, lkXF_takes, lkXF_hands, lkXF_is_ranked, lkXF_rests, lkXF_begun, lkXF_pool, lkXF_rule, lkXF_goals, lkXF_moved, lkXF_can, lkXF_moves, lkXF_clock, lkXF_change, lkXF_first, lkXF_served, lkXF_rests_at, lkXF_chosen, lkXF_is_open, lnXF, lkDF_called, lkDF_then, lkDF_takes, lkDF_hands, lkDF_is_ranked, lkDF_rests, lkDF_begun, lkDF_pool, lkDF_rule, lkDF_goals, lkDF_moved, lkDF_can, lkDF_moves, lkDF_clock, lkDF_change, lkDF_first, lkDF_served, lkDF_rests_at, lkDF_chosen, lkDF_is_open, lnDF, lkKF_called, lkKF_then, lkKF_takes, lkKF_hands, lkKF_is_ranked, lkKF_rests, lkKF_begun, lkKF_pool, lkKF_rule, lkKF_goals, lkKF_moved, lkKF_can, lkKF_moves, lkKF_clock, lkKF_change, lkKF_first, lkKF_served, lkKF_rests_at, lkKF_chosen, lkKF_is_open, lnKF, gp, q0, q2, pf, ne]
theorem ok_DeskPlace_change (T : Tx K mg Env.Place Env.Passing Env.DeskPlace Env.Visitor Env.Floor Env.cl_DeskPlace_first Env.tl_DeskPlace_first) {f : Addr} {fd : FuncData} (F : Fun K "change" "DeskPlace.change" sDeskPlace_change f fd) : FnOk P w K mg base (L2N.CX P w) 1 f fd ["self", "change"] (spG K g_DeskPlace_change) := FnOk.by (raw_DeskPlace_change T  F) eq_DeskPlace_change
abbrev sDeskPlace_rests_at : Stmt := (inClass (top 5) 2)
abbrev NDeskPlace_rests_at : List Str := ["self", "turn", "begin", "end"]
theorem scDeskPlace_rests_at : FnScope NDeskPlace_rests_at ["self", "turn"] (defScope sDeskPlace_rests_at) := ⟨rfl, rfl, rfl, by decide +kernel, rfl, by decide +kernel, by decide +kernel⟩
noncomputable def cDeskPlace_rests_at1e : M D :=
    (dChain (gI iLe) (gI iLt) (dVar 2) (dVar 1) (dVar 3))
noncomputable def den_DeskPlace_rests_at : M Fl :=
    (dRet (M.bind (okN (dLcA (dFldA Cs_rests "rests" (dVar 0)) (dTupG 2 (dConsG (dName 2) (dConsG (dName 3) dUnit))) (M.pure true) cDeskPlace_rests_at1e [2, 3])) gAny))
theorem raw_DeskPlace_rests_at (T : Tx K mg Env.Place Env.Passing Env.DeskPlace Env.Visitor Env.Floor Env.cl_DeskPlace_first Env.tl_DeskPlace_first) {f : Addr} {fd : FuncData} (F : Fun K "rests_at" "DeskPlace.rests_at" sDeskPlace_rests_at f fd) : FnOk P w K mg base (L2N.CX P w) 1 f fd ["self", "turn"] (spG K (runD 4 2 den_DeskPlace_rests_at)) := by
  have sc := scDeskPlace_rests_at
  exact fn_ok (N := NDeskPlace_rests_at) F sc rfl (by decide) fun cdv A outer s H E hr => ⟨_, ((bd_one (sd_ret (dd_b1 (bAny rfl) (by rfl) T.n_any (by decide +kernel) (EN.e (en_lcA (own := [("begin", 2), ("end", 3)]) (W' := W0) rfl sc.nd (dd_fldA (fa_rests T) (ed_var 0)) (blkOk_by (N := NDeskPlace_rests_at) (sc := defScope sDeskPlace_rests_at) (by decide +kernel)) (fun _ _ _ _ _ => (gd_tup rfl (gds_cons (gd_name (i := 2) sc.nd rfl (by first | exact Or.inl rfl | exact Or.inr rfl)) (gds_cons (gd_name (i := 3) sc.nd rfl (by first | exact Or.inl rfl | exact Or.inr rfl)) gds_nil)))) (fun _ _ _ _ _ => tsd_nil) (fun _ _ _ _ _ => (dd_chain cLe cLt (ed_var 2) (ed_var 1) (ed_var 3)))))))) : BD _ _ _ _ den_DeskPlace_rests_at)⟩
noncomputable def g_DeskPlace_rests_at : G := runD 4 2 den_DeskPlace_rests_at
theorem eq_DeskPlace_rests_at : ∀ ds S, g_DeskPlace_rests_at ds S ≠ .no → runD 4 2 den_DeskPlace_rests_at ds S = g_DeskPlace_rests_at ds S := fun _ _ _ => rfl
theorem rests_ok {L : Lay} {m : Fm} {S : List Cell} (h : FloorAt L m S) {n : Str} (hn : n ∈ m.ns) {th : Str} {hd bg : Int} {tk : D} {rk : Bool} {rs : List (Int × Int)} (hz : rs.length ≤ 1000) (hp : m.plc n = .ins Env.DeskPlace (KF n th hd tk rk (.tup (rs.map pD)) bg)) (z : Int) : g_DeskPlace_rests_at [.loc (L.pl n), .v (.int z)] S = .ok (.v (.bl (restB rs z))) S := by
  have gp := h.gpl hn
  rw [hp] at gp
  have e := fun r0 => itL_enc (dg := dTupG 2 (dConsG (dName 2) (dConsG (dName 3) dUnit))) (dt := M.pure true) (de := cDeskPlace_rests_at1e) (vs := [2, 3]) (r0 := r0) (w := [.d (.loc (L.pl n)), .d (.v (.int z)), .no, .no]) (S := S) (enc := pD) (p := fun _ => true) (f := fun p : Int × Int => D.v (.bl (decide (p.1 ≤ z) && decide (z < p.2)))) rs ⟨[.d (.loc (L.pl n)), .d (.v (.int z)), .no, .no], S⟩ rfl rfl (by omega) (fun p hp' => by
    refine ⟨⟨[.d (.loc (L.pl n)), .d (.v (.int z)), .d (.v (.int p.1)), .d (.v (.int p.2))], S⟩, rfl, ⟨[.d (.loc (L.pl n)), .d (.v (.int z)), .d (.v (.int p.1)), .d (.v (.int p.2))], S⟩, rfl, rfl, fun q => (by cases q), fun _ => ⟨⟨[.d (.loc (L.pl n)), .d (.v (.int z)), .d (.v (.int p.1)), .d (.v (.int p.2))], S⟩, ?_, rfl, rfl⟩⟩
    by_cases q : p.1 ≤ z
    · simp_arith [cDeskPlace_rests_at1e, q, Bool.true_and]
    · simp_arith [cDeskPlace_rests_at1e, q, Bool.false_and])
  have ef : rs.filter (fun _ => true) = rs := List.filter_eq_self.mpr fun _ _ => rfl
  rw [ef] at e
  have ga := fun c => gAny_map (fun p : Int × Int => decide (p.1 ≤ z) && decide (z < p.2)) rs c
  have er : (rs.any fun p => decide (p.1 ≤ z) && decide (z < p.2)) = restB rs z := rfl
  rw [er] at ga
  generalize (rs.map fun p : Int × Int => D.v (.bl (decide (p.1 ≤ z) && decide (z < p.2)))) = G at *
  generalize rs.map pD = R at *
  simp_arith [g_DeskPlace_rests_at, den_DeskPlace_rests_at, dLcA, dLcX, dFldA, dSetFA, dMethL, dMeth, insA, insD, dRGet, rdcD, dctD, keyD, dSt, dDAug, rol, spl, izl, gsl, Sdl, vcell, tilD, dFldAug, lkV1, lkV2, lkV3, lkV4, lkV5, ptV1, ptV2, ptV3, lnV, lkF1, lkF2, lkF3, lkF4, lkF5, lkFa, lkFb, lkFc, lkFd, lkFe, lkFf, lkFg, lkFh, lkFi, lkFj, lkFk, lkFl, lkFm, lkFn, lkFo, lkFp, mC_Place_called, mC_Passing_called, mC_DeskPlace_called, mC_Visitor_called, mC_Passing_then, mC_DeskPlace_then, mC_DeskPlace_hands, mC_DeskPlace_takes, mC_DeskPlace_is_ranked, mC_DeskPlace_rests, mC_DeskPlace_begun, mC_Visitor_since, mC_Visitor_until, mC_Visitor_things, mC_Visitor_grade, mC_Floor_guests, mC_Floor_rows, mC_Floor_spots, mC_Floor_ranks, mC_Floor_pools, lkXF_called, lkXF_then, lkXF_takes, lkXF_hands, lkXF_is_ranked, lkXF_rests, lkXF_begun, lkXF_pool, lkXF_rule, lkXF_goals, lkXF_moved, lkXF_can, lkXF_moves, lkXF_clock, lkXF_change, lkXF_first, lkXF_served, lkXF_rests_at, lkXF_chosen, lkXF_is_open, lnXF, lkDF_called, lkDF_then, lkDF_takes, lkDF_hands, lkDF_is_ranked, lkDF_rests, lkDF_begun, lkDF_pool, lkDF_rule, lkDF_goals, lkDF_moved, lkDF_can, lkDF_moves, lkDF_clock, lkDF_change, lkDF_first, lkDF_served, lkDF_rests_at, lkDF_chosen, lkDF_is_open, lnDF, lkKF_called, lkKF_then, lkKF_takes, lkKF_hands, lkKF_is_ranked, lkKF_rests, lkKF_begun, lkKF_pool, lkKF_rule, lkKF_goals, lkKF_moved, lkKF_can, lkKF_moves, lkKF_clock, lkKF_change, lkKF_first, lkKF_served, lkKF_rests_at, lkKF_chosen, lkKF_is_open, lnKF, gp, e, ga, -gAny, -itL]
theorem ok_DeskPlace_rests_at (T : Tx K mg Env.Place Env.Passing Env.DeskPlace Env.Visitor Env.Floor Env.cl_DeskPlace_first Env.tl_DeskPlace_first) {f : Addr} {fd : FuncData} (F : Fun K "rests_at" "DeskPlace.rests_at" sDeskPlace_rests_at f fd) : FnOk P w K mg base (L2N.CX P w) 1 f fd ["self", "turn"] (spG K g_DeskPlace_rests_at) := FnOk.by (raw_DeskPlace_rests_at T  F) eq_DeskPlace_rests_at
abbrev sFloor_at : Stmt := (inClass (top 14) 12)
abbrev NFloor_at : List Str := ["self", "name"]
theorem scFloor_at : FnScope NFloor_at ["self", "name"] (defScope sFloor_at) := ⟨rfl, rfl, rfl, by decide +kernel, rfl, by decide +kernel, by decide +kernel⟩
noncomputable def den_Floor_at : M Fl :=
    (dRet (dSt (dListOf (okD (dRGet (okD (dFldA Cs_rows "rows" (dVar 0))) (dD (dVar 1)))))))
theorem raw_Floor_at (T : Tx K mg Env.Place Env.Passing Env.DeskPlace Env.Visitor Env.Floor Env.cl_DeskPlace_first Env.tl_DeskPlace_first) {f : Addr} {fd : FuncData} (F : Fun K "at" "Floor.at" sFloor_at f fd) : FnOk P w K mg base (L2N.CX P w) 1 f fd ["self", "name"] (spG K (runD 2 2 den_Floor_at)) := by
  have sc := scFloor_at
  exact fn_ok (N := NFloor_at) F sc rfl (by decide) fun cdv A outer s H E hr => ⟨_, ((bd_one (sd_ret (dd_st (en_listOf (by rfl) T.n_list (by decide +kernel) (DD.e (dd_rget (u1 hr) (DD.e (dd_fldA (fa_rows T) (ed_var 0))) (ED.d (ed_var 1)))))))) : BD _ _ _ _ den_Floor_at)⟩
noncomputable def g_Floor_at : G := runD 2 2 den_Floor_at
theorem eq_Floor_at : ∀ ds S, g_Floor_at ds S ≠ .no → runD 2 2 den_Floor_at ds S = g_Floor_at ds S := fun _ _ _ => rfl
theorem at_ok {L : Lay} {m : Fm} {S : List Cell} (h : FloorAt L m S) {n : Str} (hn : n ∈ m.ns) : g_Floor_at [.loc L.f, .v (.str n)] S = .ok (.loc S.length) (S ++ [.lst ((m.rows n).map I)]) := by
  have gf := h.gf
  have gsp := h.gsp
  have gro := h.gro
  have gpo := h.gpo
  have grk := h.grk
  have ggs := h.ggs
  have v1 := ro_at (L := L) hn
  have gr := h.grw hn
  simp_arith [g_Floor_at, den_Floor_at, dFldA, dSetFA, dMethL, dMeth, insA, insD, dRGet, rdcD, dctD, keyD, dSt, dDAug, rol, spl, izl, gsl, Sdl, vcell, tilD, dFldAug, gf, gsp, gro, gpo, grk, ggs, lkV1, lkV2, lkV3, lkV4, lkV5, ptV1, ptV2, ptV3, lnV, lkF1, lkF2, lkF3, lkF4, lkF5, lkFa, lkFb, lkFc, lkFd, lkFe, lkFf, lkFg, lkFh, lkFi, lkFj, lkFk, lkFl, lkFm, lkFn, lkFo, lkFp, mC_Place_called, mC_Passing_called, mC_DeskPlace_called, mC_Visitor_called, mC_Passing_then, mC_DeskPlace_then, mC_DeskPlace_hands, mC_DeskPlace_takes, mC_DeskPlace_is_ranked, mC_DeskPlace_rests, mC_DeskPlace_begun, mC_Visitor_since, mC_Visitor_until, mC_Visitor_things, mC_Visitor_grade, mC_Floor_guests, mC_Floor_rows, mC_Floor_spots, mC_Floor_ranks, mC_Floor_pools, lkXF_called, lkXF_then, lkXF_takes, lkXF_hands, lkXF_is_ranked, lkXF_rests, lkXF_begun, lkXF_pool, lkXF_rule, lkXF_goals, lkXF_moved, lkXF_can, lkXF_moves, lkXF_clock, lkXF_change, lkXF_first, lkXF_served, lkXF_rests_at, lkXF_chosen, lkXF_is_open, lnXF, lkDF_called, lkDF_then, lkDF_takes, lkDF_hands, lkDF_is_ranked, lkDF_rests, lkDF_begun, lkDF_pool, lkDF_rule, lkDF_goals, lkDF_moved, lkDF_can, lkDF_moves, lkDF_clock, lkDF_change, lkDF_first, lkDF_served, lkDF_rests_at, lkDF_chosen, lkDF_is_open, lnDF, lkKF_called, lkKF_then, lkKF_takes, lkKF_hands, lkKF_is_ranked, lkKF_rests, lkKF_begun, lkKF_pool, lkKF_rule, lkKF_goals, lkKF_moved, lkKF_can, lkKF_moves, lkKF_clock, lkKF_change, lkKF_first, lkKF_served, lkKF_rests_at, lkKF_chosen, lkKF_is_open, lnKF, v1, gr]
theorem ok_Floor_at (T : Tx K mg Env.Place Env.Passing Env.DeskPlace Env.Visitor Env.Floor Env.cl_DeskPlace_first Env.tl_DeskPlace_first) {f : Addr} {fd : FuncData} (F : Fun K "at" "Floor.at" sFloor_at f fd) : FnOk P w K mg base (L2N.CX P w) 1 f fd ["self", "name"] (spG K g_Floor_at) := FnOk.by (raw_Floor_at T  F) eq_Floor_at
abbrev sFloor_enter : Stmt := (inClass (top 14) 2)
abbrev NFloor_enter : List Str := ["self", "number", "name", "turn", "guest"]
theorem scFloor_enter : FnScope NFloor_enter ["self", "number", "name", "turn"] (defScope sFloor_enter) := ⟨rfl, rfl, rfl, by decide +kernel, rfl, by decide +kernel, by decide +kernel⟩
noncomputable def den_Floor_enter : M Fl :=
    (dSeq (dSet 4 (dOp gIx (okD (dFldA Cs_guests "guests" (dVar 0))) (dVar 1)))
    (dSeq (dDrop (okD (dRem (okD (dRGet (okD (dFldA Cs_rows "rows" (dVar 0))) (dFldA Cs_called "called" (dVar 4)))) (dD (dVar 1)))))
    (dSeq (dDrop (okD (dApp (okD (dRGet (okD (dFldA Cs_rows "rows" (dVar 0))) (dD (dVar 2)))) (dD (dVar 1)))))
    (dSeq (dSetFA Cs_called "called" (dD (dVar 2)) (dVar 4))
    (dSeq (dSetFA Cs_since "since" (dD (dVar 3)) (dVar 4))
    (dSetFA Cs_until "until" (dD (dC .non)) (dVar 4)))))))
theorem raw_Floor_enter (T : Tx K mg Env.Place Env.Passing Env.DeskPlace Env.Visitor Env.Floor Env.cl_DeskPlace_first Env.tl_DeskPlace_first) {f : Addr} {fd : FuncData} (F : Fun K "enter" "Floor.enter" sFloor_enter f fd) : FnOk P w K mg base (L2N.CX P w) 1 f fd ["self", "number", "name", "turn"] (spG K (runD 5 4 den_Floor_enter)) := by
  have sc := scFloor_enter
  exact fn_ok (N := NFloor_enter) F sc rfl (by decide) fun cdv A outer s H E hr => ⟨_, ((bd_cons (sd_set (i := 4) sc.nd rfl (by first | exact Or.inl rfl | exact Or.inr rfl) (dd_ix (DD.e (dd_fldA (fa_guests T) (ed_var 0))) (ed_var 1) (fun _ _ => rfl)))
    (bd_cons (sd_expr (DD.e (dd_rem (u66 hr) (DD.e (dd_rget (u1 hr) (DD.e (dd_fldA (fa_rows T) (ed_var 0))) (dd_fldA (fa_called T) (ed_var 4)))) (ED.d (ed_var 1)))))
    (bd_cons (sd_expr (DD.e (dd_append (DD.e (dd_rget (u1 hr) (DD.e (dd_fldA (fa_rows T) (ed_var 0))) (ED.d (ed_var 2)))) (ED.d (ed_var 1)))))
    (bd_cons (sd_fldA (fa_called T) (ed_var 4) (ED.d (ed_var 2)))
    (bd_cons (sd_fldA (fa_since T) (ed_var 4) (ED.d (ed_var 3)))
    (bd_one (sd_fldA (fa_until T) (ed_var 4) (ED.d ed_non)))))))) : BD _ _ _ _ den_Floor_enter)⟩
noncomputable def g_Floor_enter : G := runD 5 4 den_Floor_enter
theorem eq_Floor_enter : ∀ ds S, g_Floor_enter ds S ≠ .no → runD 5 4 den_Floor_enter ds S = g_Floor_enter ds S := fun _ _ _ => rfl
def Fm.enter (m : Fm) (k : Nat) (v : Vz) (n : Str) (z : Int) : Fm := ((m.setRow v.called ((m.rows v.called).erase (k : Nat))).setRow n ((if n = v.called then (m.rows v.called).erase (k : Nat) else m.rows n) ++ [((k : Nat) : Int)])).setVis k { v with called := n, since := z, til := none }
theorem enter_ok {L : Lay} {m : Fm} {S : List Cell} (h : FloorAt L m S) {k : Nat} {v : Vz} (hk : m.vis[k]? = some v) (hn : v.called ∈ m.ns) {n : Str} (hn2 : n ∈ m.ns) (hm : ((k : Nat) : Int) ∈ m.rows v.called) (hz : (m.rows v.called).length < 1000) (hz2 : (m.rows n).length < 1000) (z : Int) : ∃ S', g_Floor_enter [.loc L.f, .v (.int (k : Nat)), .v (.str n), .v (.int z)] S = .ok (.v .non) S' ∧ FloorAt L (m.enter k v n z) S' := by
  have h1 := h.setRow hn ((m.rows v.called).erase (k : Nat))
  have h2 := h1.setRow (n := n) hn2 ((if n = v.called then (m.rows v.called).erase (k : Nat) else m.rows n) ++ [((k : Nat) : Int)])
  have h3 := h2.setVis (k := k) (v := v) (w := { v with called := n, since := z, til := none }) hk rfl rfl rfl
  refine ⟨_, ?_, h3⟩
  have gf := h.gf
  have gsp := h.gsp
  have gro := h.gro
  have gpo := h.gpo
  have grk := h.grk
  have ggs := h.ggs
  have a1 : atI (gsD m.vis) (k : Nat) = some (.loc v.q) := gs_at hk
  have gv := h.gvi hk
  have gt := h.gth hk
  have v1 := ro_at (L := L) hn
  have v2 := ro_at (L := L) hn2
  have gr := h.grw hn
  obtain ⟨j, j1, j2⟩ := rem_int hm
  have dz : (PyData.int ((k : Nat) : Int)).depth ≤ 64 := Nat.le_trans (PySem.W.Datum.depth_le ((k : Nat) : Int)) (by decide)
  have gf1 := h1.gf
  have gro1 := h1.gro
  have gr1 := h1.grw (n := n) hn2
  have gv1 := h1.gvi (k := k) (v := v) hk
  have gv2 := h2.gvi (k := k) (v := v) hk
  have gv3 := fun x => st_get gv2 x
  have er : (m.setRow v.called ((m.rows v.called).erase (k : Nat))).rows n = (if n = v.called then (m.rows v.called).erase (k : Nat) else m.rows n) := rfl
  have ens : (m.setRow v.called ((m.rows v.called).erase (k : Nat))).ns = m.ns := rfl
  rw [er] at gr1
  rw [ens] at gro1
  have hl : (if n = v.called then (m.rows v.called).erase (k : Nat) else m.rows n).length < 1000000 := by
    split
    · have : ((m.rows v.called).erase (k : Nat)).length ≤ (m.rows v.called).length := List.length_erase_le
      omega
    · omega
  generalize hrw : (if n = v.called then (m.rows v.called).erase (k : Nat) else m.rows n) = R1 at *
  unfold vcell at gv gv1 gv2
  simp_arith [g_Floor_enter, den_Floor_enter, dRem, dFldA, dSetFA, dMethL, dMeth, insA, insD, dRGet, rdcD, dctD, keyD, dSt, dDAug, rol, spl, izl, gsl, Sdl, vcell, tilD, dFldAug, gf, gsp, gro, gpo, grk, ggs, lkV1, lkV2, lkV3, lkV4, lkV5, ptV1, ptV2, ptV3, lnV, lkF1, lkF2, lkF3, lkF4, lkF5, lkFa, lkFb, lkFc, lkFd, lkFe, lkFf, lkFg, lkFh, lkFi, lkFj, lkFk, lkFl, lkFm, lkFn, lkFo, lkFp, mC_Place_called, mC_Passing_called, mC_DeskPlace_called, mC_Visitor_called, mC_Passing_then, mC_DeskPlace_then, mC_DeskPlace_hands, mC_DeskPlace_takes, mC_DeskPlace_is_ranked, mC_DeskPlace_rests, mC_DeskPlace_begun, mC_Visitor_since, mC_Visitor_until, mC_Visitor_things, mC_Visitor_grade, mC_Floor_guests, mC_Floor_rows, mC_Floor_spots, mC_Floor_ranks, mC_Floor_pools, lkXF_called, lkXF_then, lkXF_takes, lkXF_hands, lkXF_is_ranked, lkXF_rests, lkXF_begun, lkXF_pool, lkXF_rule, lkXF_goals, lkXF_moved, lkXF_can, lkXF_moves, lkXF_clock, lkXF_change, lkXF_first, lkXF_served, lkXF_rests_at, lkXF_chosen, lkXF_is_open, lnXF, lkDF_called, lkDF_then, lkDF_takes, lkDF_hands, lkDF_is_ranked, lkDF_rests, lkDF_begun, lkDF_pool, lkDF_rule, lkDF_goals, lkDF_moved, lkDF_can, lkDF_moves, lkDF_clock, lkDF_change, lkDF_first, lkDF_served, lkDF_rests_at, lkDF_chosen, lkDF_is_open, lnDF, lkKF_called, lkKF_then, lkKF_takes, lkKF_hands, lkKF_is_ranked, lkKF_rests, lkKF_begun, lkKF_pool, lkKF_rule, lkKF_goals, lkKF_moved, lkKF_can, lkKF_moves, lkKF_clock, lkKF_change, lkKF_first, lkKF_served, lkKF_rests_at, lkKF_chosen, lkKF_is_open, lnKF, a1, gv, gr, v1, v2, pyDs_ints, pyO_int, j1, j2, dz, gf1, gro1, gr1, gv1, gv2, gv3, app_int, hl, List.set_set, List.length_map]
theorem ok_Floor_enter (T : Tx K mg Env.Place Env.Passing Env.DeskPlace Env.Visitor Env.Floor Env.cl_DeskPlace_first Env.tl_DeskPlace_first) {f : Addr} {fd : FuncData} (F : Fun K "enter" "Floor.enter" sFloor_enter f fd) : FnOk P w K mg base (L2N.CX P w) 1 f fd ["self", "number", "name", "turn"] (spG K g_Floor_enter) := FnOk.by (raw_Floor_enter T  F) eq_Floor_enter
abbrev sFloor_place : Stmt := (inClass (top 14) 6)
abbrev NFloor_place : List Str := ["self", "number"]
theorem scFloor_place : FnScope NFloor_place ["self", "number"] (defScope sFloor_place) := ⟨rfl, rfl, rfl, by decide +kernel, rfl, by decide +kernel, by decide +kernel⟩
noncomputable def den_Floor_place : M Fl :=
    (dRet (dRGet (okD (dFldA Cs_spots "spots" (dVar 0))) (dFldA Cs_called "called" (okD (dOp gIx (okD (dFldA Cs_guests "guests" (dVar 0))) (dVar 1))))))
theorem raw_Floor_place (T : Tx K mg Env.Place Env.Passing Env.DeskPlace Env.Visitor Env.Floor Env.cl_DeskPlace_first Env.tl_DeskPlace_first) {f : Addr} {fd : FuncData} (F : Fun K "place" "Floor.place" sFloor_place f fd) : FnOk P w K mg base (L2N.CX P w) 1 f fd ["self", "number"] (spG K (runD 2 2 den_Floor_place)) := by
  have sc := scFloor_place
  exact fn_ok (N := NFloor_place) F sc rfl (by decide) fun cdv A outer s H E hr => ⟨_, ((bd_one (sd_ret (dd_rget (u1 hr) (DD.e (dd_fldA (fa_spots T) (ed_var 0))) (dd_fldA (fa_called T) (DD.e (dd_ix (DD.e (dd_fldA (fa_guests T) (ed_var 0))) (ed_var 1) (fun _ _ => rfl))))))) : BD _ _ _ _ den_Floor_place)⟩
noncomputable def g_Floor_place : G := runD 2 2 den_Floor_place
theorem eq_Floor_place : ∀ ds S, g_Floor_place ds S ≠ .no → runD 2 2 den_Floor_place ds S = g_Floor_place ds S := fun _ _ _ => rfl
theorem place_ok {L : Lay} {m : Fm} {S : List Cell} (h : FloorAt L m S) {k : Nat} {v : Vz} (hk : m.vis[k]? = some v) (hn : v.called ∈ m.ns) : g_Floor_place [.loc L.f, .v (.int (k : Nat))] S = .ok (.loc (L.pl v.called)) S := by
  have gf := h.gf
  have gsp := h.gsp
  have gro := h.gro
  have gpo := h.gpo
  have grk := h.grk
  have ggs := h.ggs
  have a1 : atI (gsD m.vis) (k : Nat) = some (.loc v.q) := gs_at hk
  have gv := h.gvi hk
  have gt := h.gth hk
  have v1 := sp_at (L := L) hn
  simp_arith [g_Floor_place, den_Floor_place, dFldA, dSetFA, dMethL, dMeth, insA, insD, dRGet, rdcD, dctD, keyD, dSt, dDAug, rol, spl, izl, gsl, Sdl, vcell, tilD, dFldAug, gf, gsp, gro, gpo, grk, ggs, lkV1, lkV2, lkV3, lkV4, lkV5, ptV1, ptV2, ptV3, lnV, lkF1, lkF2, lkF3, lkF4, lkF5, lkFa, lkFb, lkFc, lkFd, lkFe, lkFf, lkFg, lkFh, lkFi, lkFj, lkFk, lkFl, lkFm, lkFn, lkFo, lkFp, mC_Place_called, mC_Passing_called, mC_DeskPlace_called, mC_Visitor_called, mC_Passing_then, mC_DeskPlace_then, mC_DeskPlace_hands, mC_DeskPlace_takes, mC_DeskPlace_is_ranked, mC_DeskPlace_rests, mC_DeskPlace_begun, mC_Visitor_since, mC_Visitor_until, mC_Visitor_things, mC_Visitor_grade, mC_Floor_guests, mC_Floor_rows, mC_Floor_spots, mC_Floor_ranks, mC_Floor_pools, lkXF_called, lkXF_then, lkXF_takes, lkXF_hands, lkXF_is_ranked, lkXF_rests, lkXF_begun, lkXF_pool, lkXF_rule, lkXF_goals, lkXF_moved, lkXF_can, lkXF_moves, lkXF_clock, lkXF_change, lkXF_first, lkXF_served, lkXF_rests_at, lkXF_chosen, lkXF_is_open, lnXF, lkDF_called, lkDF_then, lkDF_takes, lkDF_hands, lkDF_is_ranked, lkDF_rests, lkDF_begun, lkDF_pool, lkDF_rule, lkDF_goals, lkDF_moved, lkDF_can, lkDF_moves, lkDF_clock, lkDF_change, lkDF_first, lkDF_served, lkDF_rests_at, lkDF_chosen, lkDF_is_open, lnDF, lkKF_called, lkKF_then, lkKF_takes, lkKF_hands, lkKF_is_ranked, lkKF_rests, lkKF_begun, lkKF_pool, lkKF_rule, lkKF_goals, lkKF_moved, lkKF_can, lkKF_moves, lkKF_clock, lkKF_change, lkKF_first, lkKF_served, lkKF_rests_at, lkKF_chosen, lkKF_is_open, lnKF, a1, gv, v1]
theorem ok_Floor_place (T : Tx K mg Env.Place Env.Passing Env.DeskPlace Env.Visitor Env.Floor Env.cl_DeskPlace_first Env.tl_DeskPlace_first) {f : Addr} {fd : FuncData} (F : Fun K "place" "Floor.place" sFloor_place f fd) : FnOk P w K mg base (L2N.CX P w) 1 f fd ["self", "number"] (spG K g_Floor_place) := FnOk.by (raw_Floor_place T  F) eq_Floor_place
abbrev sFloor_rank : Stmt := (inClass (top 14) 11)
abbrev NFloor_rank : List Str := ["self", "number"]
theorem scFloor_rank : FnScope NFloor_rank ["self", "number"] (defScope sFloor_rank) := ⟨rfl, rfl, rfl, by decide +kernel, rfl, by decide +kernel, by decide +kernel⟩
noncomputable def den_Floor_rank : M Fl :=
    (dRet (dFldA Cs_grade "grade" (okD (dOp gIx (okD (dFldA Cs_guests "guests" (dVar 0))) (dVar 1)))))
theorem raw_Floor_rank (T : Tx K mg Env.Place Env.Passing Env.DeskPlace Env.Visitor Env.Floor Env.cl_DeskPlace_first Env.tl_DeskPlace_first) {f : Addr} {fd : FuncData} (F : Fun K "rank" "Floor.rank" sFloor_rank f fd) : FnOk P w K mg base (L2N.CX P w) 1 f fd ["self", "number"] (spG K (runD 2 2 den_Floor_rank)) := by
  have sc := scFloor_rank
  exact fn_ok (N := NFloor_rank) F sc rfl (by decide) fun cdv A outer s H E hr => ⟨_, ((bd_one (sd_ret (dd_fldA (fa_grade T) (DD.e (dd_ix (DD.e (dd_fldA (fa_guests T) (ed_var 0))) (ed_var 1) (fun _ _ => rfl)))))) : BD _ _ _ _ den_Floor_rank)⟩
noncomputable def g_Floor_rank : G := runD 2 2 den_Floor_rank
theorem eq_Floor_rank : ∀ ds S, g_Floor_rank ds S ≠ .no → runD 2 2 den_Floor_rank ds S = g_Floor_rank ds S := fun _ _ _ => rfl
theorem rank_ok {L : Lay} {m : Fm} {S : List Cell} (h : FloorAt L m S) {k : Nat} {v : Vz} (hk : m.vis[k]? = some v) : g_Floor_rank [.loc L.f, .v (.int (k : Nat))] S = .ok (.v (.int v.grade)) S := by
  have gf := h.gf
  have gsp := h.gsp
  have gro := h.gro
  have gpo := h.gpo
  have grk := h.grk
  have ggs := h.ggs
  have a1 : atI (gsD m.vis) (k : Nat) = some (.loc v.q) := gs_at hk
  have gv := h.gvi hk
  have gt := h.gth hk
  unfold vcell at gv
  generalize tilD v.til = u at *
  simp_arith [g_Floor_rank, den_Floor_rank, dFldA, dSetFA, dMethL, dMeth, insA, insD, dRGet, rdcD, dctD, keyD, dSt, dDAug, rol, spl, izl, gsl, Sdl, vcell, tilD, dFldAug, gf, gsp, gro, gpo, grk, ggs, lkV1, lkV2, lkV3, lkV4, lkV5, ptV1, ptV2, ptV3, lnV, lkF1, lkF2, lkF3, lkF4, lkF5, lkFa, lkFb, lkFc, lkFd, lkFe, lkFf, lkFg, lkFh, lkFi, lkFj, lkFk, lkFl, lkFm, lkFn, lkFo, lkFp, mC_Place_called, mC_Passing_called, mC_DeskPlace_called, mC_Visitor_called, mC_Passing_then, mC_DeskPlace_then, mC_DeskPlace_hands, mC_DeskPlace_takes, mC_DeskPlace_is_ranked, mC_DeskPlace_rests, mC_DeskPlace_begun, mC_Visitor_since, mC_Visitor_until, mC_Visitor_things, mC_Visitor_grade, mC_Floor_guests, mC_Floor_rows, mC_Floor_spots, mC_Floor_ranks, mC_Floor_pools, lkXF_called, lkXF_then, lkXF_takes, lkXF_hands, lkXF_is_ranked, lkXF_rests, lkXF_begun, lkXF_pool, lkXF_rule, lkXF_goals, lkXF_moved, lkXF_can, lkXF_moves, lkXF_clock, lkXF_change, lkXF_first, lkXF_served, lkXF_rests_at, lkXF_chosen, lkXF_is_open, lnXF, lkDF_called, lkDF_then, lkDF_takes, lkDF_hands, lkDF_is_ranked, lkDF_rests, lkDF_begun, lkDF_pool, lkDF_rule, lkDF_goals, lkDF_moved, lkDF_can, lkDF_moves, lkDF_clock, lkDF_change, lkDF_first, lkDF_served, lkDF_rests_at, lkDF_chosen, lkDF_is_open, lnDF, lkKF_called, lkKF_then, lkKF_takes, lkKF_hands, lkKF_is_ranked, lkKF_rests, lkKF_begun, lkKF_pool, lkKF_rule, lkKF_goals, lkKF_moved, lkKF_can, lkKF_moves, lkKF_clock, lkKF_change, lkKF_first, lkKF_served, lkKF_rests_at, lkKF_chosen, lkKF_is_open, lnKF, a1, gv]
theorem ok_Floor_rank (T : Tx K mg Env.Place Env.Passing Env.DeskPlace Env.Visitor Env.Floor Env.cl_DeskPlace_first Env.tl_DeskPlace_first) {f : Addr} {fd : FuncData} (F : Fun K "rank" "Floor.rank" sFloor_rank f fd) : FnOk P w K mg base (L2N.CX P w) 1 f fd ["self", "number"] (spG K g_Floor_rank) := FnOk.by (raw_Floor_rank T  F) eq_Floor_rank
abbrev sFloor_serve : Stmt := (inClass (top 14) 3)
abbrev NFloor_serve : List Str := ["self", "number", "until"]
theorem scFloor_serve : FnScope NFloor_serve ["self", "number", "until"] (defScope sFloor_serve) := ⟨rfl, rfl, rfl, by decide +kernel, rfl, by decide +kernel, by decide +kernel⟩
noncomputable def den_Floor_serve : M Fl :=
    (dSetFA Cs_until "until" (dD (dVar 2)) (okD (dOp gIx (okD (dFldA Cs_guests "guests" (dVar 0))) (dVar 1))))
theorem raw_Floor_serve (T : Tx K mg Env.Place Env.Passing Env.DeskPlace Env.Visitor Env.Floor Env.cl_DeskPlace_first Env.tl_DeskPlace_first) {f : Addr} {fd : FuncData} (F : Fun K "serve" "Floor.serve" sFloor_serve f fd) : FnOk P w K mg base (L2N.CX P w) 1 f fd ["self", "number", "until"] (spG K (runD 3 3 den_Floor_serve)) := by
  have sc := scFloor_serve
  exact fn_ok (N := NFloor_serve) F sc rfl (by decide) fun cdv A outer s H E hr => ⟨_, ((bd_one (sd_fldA (fa_until T) (DD.e (dd_ix (DD.e (dd_fldA (fa_guests T) (ed_var 0))) (ed_var 1) (fun _ _ => rfl))) (ED.d (ed_var 2)))) : BD _ _ _ _ den_Floor_serve)⟩
noncomputable def g_Floor_serve : G := runD 3 3 den_Floor_serve
theorem eq_Floor_serve : ∀ ds S, g_Floor_serve ds S ≠ .no → runD 3 3 den_Floor_serve ds S = g_Floor_serve ds S := fun _ _ _ => rfl
theorem serve_ok {L : Lay} {m : Fm} {S : List Cell} (h : FloorAt L m S) {k : Nat} {v : Vz} (hk : m.vis[k]? = some v) (z : Int) : ∃ S', g_Floor_serve [.loc L.f, .v (.int (k : Nat)), .v (.int z)] S = .ok (.v .non) S' ∧ FloorAt L (m.setVis k { v with til := some z }) S' := by
  have h1 := h.setVis (k := k) (v := v) (w := { v with til := some z }) hk rfl rfl rfl
  refine ⟨_, ?_, h1⟩
  have gf := h.gf
  have gsp := h.gsp
  have gro := h.gro
  have gpo := h.gpo
  have grk := h.grk
  have ggs := h.ggs
  have a1 : atI (gsD m.vis) (k : Nat) = some (.loc v.q) := gs_at hk
  have gv := h.gvi hk
  have gt := h.gth hk
  unfold vcell at gv ⊢
  generalize tilD v.til = u at *
  simp_arith [g_Floor_serve, den_Floor_serve, dFldA, dSetFA, dMethL, dMeth, insA, insD, dRGet, rdcD, dctD, keyD, dSt, dDAug, rol, spl, izl, gsl, Sdl, vcell, tilD, dFldAug, gf, gsp, gro, gpo, grk, ggs, lkV1, lkV2, lkV3, lkV4, lkV5, ptV1, ptV2, ptV3, lnV, lkF1, lkF2, lkF3, lkF4, lkF5, lkFa, lkFb, lkFc, lkFd, lkFe, lkFf, lkFg, lkFh, lkFi, lkFj, lkFk, lkFl, lkFm, lkFn, lkFo, lkFp, mC_Place_called, mC_Passing_called, mC_DeskPlace_called, mC_Visitor_called, mC_Passing_then, mC_DeskPlace_then, mC_DeskPlace_hands, mC_DeskPlace_takes, mC_DeskPlace_is_ranked, mC_DeskPlace_rests, mC_DeskPlace_begun, mC_Visitor_since, mC_Visitor_until, mC_Visitor_things, mC_Visitor_grade, mC_Floor_guests, mC_Floor_rows, mC_Floor_spots, mC_Floor_ranks, mC_Floor_pools, lkXF_called, lkXF_then, lkXF_takes, lkXF_hands, lkXF_is_ranked, lkXF_rests, lkXF_begun, lkXF_pool, lkXF_rule, lkXF_goals, lkXF_moved, lkXF_can, lkXF_moves, lkXF_clock, lkXF_change, lkXF_first, lkXF_served, lkXF_rests_at, lkXF_chosen, lkXF_is_open, lnXF, lkDF_called, lkDF_then, lkDF_takes, lkDF_hands, lkDF_is_ranked, lkDF_rests, lkDF_begun, lkDF_pool, lkDF_rule, lkDF_goals, lkDF_moved, lkDF_can, lkDF_moves, lkDF_clock, lkDF_change, lkDF_first, lkDF_served, lkDF_rests_at, lkDF_chosen, lkDF_is_open, lnDF, lkKF_called, lkKF_then, lkKF_takes, lkKF_hands, lkKF_is_ranked, lkKF_rests, lkKF_begun, lkKF_pool, lkKF_rule, lkKF_goals, lkKF_moved, lkKF_can, lkKF_moves, lkKF_clock, lkKF_change, lkKF_first, lkKF_served, lkKF_rests_at, lkKF_chosen, lkKF_is_open, lnKF, a1, gv, tilD]
theorem ok_Floor_serve (T : Tx K mg Env.Place Env.Passing Env.DeskPlace Env.Visitor Env.Floor Env.cl_DeskPlace_first Env.tl_DeskPlace_first) {f : Addr} {fd : FuncData} (F : Fun K "serve" "Floor.serve" sFloor_serve f fd) : FnOk P w K mg base (L2N.CX P w) 1 f fd ["self", "number", "until"] (spG K g_Floor_serve) := FnOk.by (raw_Floor_serve T  F) eq_Floor_serve
abbrev sFloor_where : Stmt := (inClass (top 14) 10)
abbrev NFloor_where : List Str := ["self", "number", "guest"]
theorem scFloor_where : FnScope NFloor_where ["self", "number"] (defScope sFloor_where) := ⟨rfl, rfl, rfl, by decide +kernel, rfl, by decide +kernel, by decide +kernel⟩
noncomputable def den_Floor_where : M Fl :=
    (dSeq (dSet 2 (dOp gIx (okD (dFldA Cs_guests "guests" (dVar 0))) (dVar 1)))
    (dRet (dTup (dCons (dFldA Cs_called "called" (dVar 2)) (dCons (dFldA Cs_since "since" (dVar 2)) (dCons (dFldA Cs_until "until" (dVar 2)) dNil))))))
theorem raw_Floor_where (T : Tx K mg Env.Place Env.Passing Env.DeskPlace Env.Visitor Env.Floor Env.cl_DeskPlace_first Env.tl_DeskPlace_first) {f : Addr} {fd : FuncData} (F : Fun K "where" "Floor.where" sFloor_where f fd) : FnOk P w K mg base (L2N.CX P w) 1 f fd ["self", "number"] (spG K (runD 3 2 den_Floor_where)) := by
  have sc := scFloor_where
  exact fn_ok (N := NFloor_where) F sc rfl (by decide) fun cdv A outer s H E hr => ⟨_, ((bd_cons (sd_set (i := 2) sc.nd rfl (by first | exact Or.inl rfl | exact Or.inr rfl) (dd_ix (DD.e (dd_fldA (fa_guests T) (ed_var 0))) (ed_var 1) (fun _ _ => rfl)))
    (bd_one (sd_ret (dd_tup (ad_cons (dd_fldA (fa_called T) (ed_var 2)) (ad_cons (dd_fldA (fa_since T) (ed_var 2)) (ad_cons (dd_fldA (fa_until T) (ed_var 2)) ad_nil))))))) : BD _ _ _ _ den_Floor_where)⟩
noncomputable def g_Floor_where : G := runD 3 2 den_Floor_where
theorem eq_Floor_where : ∀ ds S, g_Floor_where ds S ≠ .no → runD 3 2 den_Floor_where ds S = g_Floor_where ds S := fun _ _ _ => rfl
theorem where_ok {L : Lay} {m : Fm} {S : List Cell} (h : FloorAt L m S) {k : Nat} {v : Vz} (hk : m.vis[k]? = some v) : g_Floor_where [.loc L.f, .v (.int (k : Nat))] S = .ok (.tup [.v (.str v.called), .v (.int v.since), tilD v.til]) S := by
  have gf := h.gf
  have gsp := h.gsp
  have gro := h.gro
  have gpo := h.gpo
  have grk := h.grk
  have ggs := h.ggs
  have a1 : atI (gsD m.vis) (k : Nat) = some (.loc v.q) := gs_at hk
  have gv := h.gvi hk
  have gt := h.gth hk
  unfold vcell at gv
  generalize tilD v.til = u at *
  simp_arith [g_Floor_where, den_Floor_where, dFldA, dSetFA, dMethL, dMeth, insA, insD, dRGet, rdcD, dctD, keyD, dSt, dDAug, rol, spl, izl, gsl, Sdl, vcell, tilD, dFldAug, gf, gsp, gro, gpo, grk, ggs, lkV1, lkV2, lkV3, lkV4, lkV5, ptV1, ptV2, ptV3, lnV, lkF1, lkF2, lkF3, lkF4, lkF5, lkFa, lkFb, lkFc, lkFd, lkFe, lkFf, lkFg, lkFh, lkFi, lkFj, lkFk, lkFl, lkFm, lkFn, lkFo, lkFp, mC_Place_called, mC_Passing_called, mC_DeskPlace_called, mC_Visitor_called, mC_Passing_then, mC_DeskPlace_then, mC_DeskPlace_hands, mC_DeskPlace_takes, mC_DeskPlace_is_ranked, mC_DeskPlace_rests, mC_DeskPlace_begun, mC_Visitor_since, mC_Visitor_until, mC_Visitor_things, mC_Visitor_grade, mC_Floor_guests, mC_Floor_rows, mC_Floor_spots, mC_Floor_ranks, mC_Floor_pools, lkXF_called, lkXF_then, lkXF_takes, lkXF_hands, lkXF_is_ranked, lkXF_rests, lkXF_begun, lkXF_pool, lkXF_rule, lkXF_goals, lkXF_moved, lkXF_can, lkXF_moves, lkXF_clock, lkXF_change, lkXF_first, lkXF_served, lkXF_rests_at, lkXF_chosen, lkXF_is_open, lnXF, lkDF_called, lkDF_then, lkDF_takes, lkDF_hands, lkDF_is_ranked, lkDF_rests, lkDF_begun, lkDF_pool, lkDF_rule, lkDF_goals, lkDF_moved, lkDF_can, lkDF_moves, lkDF_clock, lkDF_change, lkDF_first, lkDF_served, lkDF_rests_at, lkDF_chosen, lkDF_is_open, lnDF, lkKF_called, lkKF_then, lkKF_takes, lkKF_hands, lkKF_is_ranked, lkKF_rests, lkKF_begun, lkKF_pool, lkKF_rule, lkKF_goals, lkKF_moved, lkKF_can, lkKF_moves, lkKF_clock, lkKF_change, lkKF_first, lkKF_served, lkKF_rests_at, lkKF_chosen, lkKF_is_open, lnKF, a1, gv]
theorem where_x {L : Lay} {m : Fm} {S : List Cell} (h : FloorAt L m S) {n : Str} (hr : RowIn m n) {x : Int} (hx : x ∈ m.rows n) : ∃ c s u, (tilW m x = Option.isNone u) ∧ g_Floor_where [.loc L.f, .v (.int x)] S = .ok (.tup [.v (.str c), .v (.int s), tilD u]) S := by
  obtain ⟨k, v, rfl, hk⟩ := hr x hx
  refine ⟨v.called, v.since, v.til, ?_, where_ok h hk⟩
  unfold tilW
  rw [Int.toNat_natCast, hk]
theorem gNone_til (neg : Bool) (u : Option Int) (c : Stt) : gNone neg (.d (tilD u)) (.d (.v .non)) c = .ok (.v (.bl (if neg then !u.isNone else u.isNone))) c := by
  cases u <;> cases neg <;> rfl
theorem ok_Floor_where (T : Tx K mg Env.Place Env.Passing Env.DeskPlace Env.Visitor Env.Floor Env.cl_DeskPlace_first Env.tl_DeskPlace_first) {f : Addr} {fd : FuncData} (F : Fun K "where" "Floor.where" sFloor_where f fd) : FnOk P w K mg base (L2N.CX P w) 1 f fd ["self", "number"] (spG K g_Floor_where) := FnOk.by (raw_Floor_where T  F) eq_Floor_where
abbrev sPassing_can : Stmt := (inClass (top 3) 1)
abbrev NPassing_can : List Str := ["self", "floor", "number", "turn"]
theorem scPassing_can : FnScope NPassing_can ["self", "floor", "number", "turn"] (defScope sPassing_can) := ⟨rfl, rfl, rfl, by decide +kernel, rfl, by decide +kernel, by decide +kernel⟩
noncomputable def den_Passing_can : M Fl :=
    (dRet (dD (dC (.bl true))))
theorem raw_Passing_can (T : Tx K mg Env.Place Env.Passing Env.DeskPlace Env.Visitor Env.Floor Env.cl_DeskPlace_first Env.tl_DeskPlace_first) {f : Addr} {fd : FuncData} (F : Fun K "can" "Passing.can" sPassing_can f fd) : FnOk P w K mg base (L2N.CX P w) 1 f fd ["self", "floor", "number", "turn"] (spG K (runD 4 4 den_Passing_can)) := by
  have sc := scPassing_can
  exact fn_ok (N := NPassing_can) F sc rfl (by decide) fun cdv A outer s H E hr => ⟨_, ((bd_one (sd_ret (ED.d ed_bl))) : BD _ _ _ _ den_Passing_can)⟩
noncomputable def g_Passing_can : G := runD 4 4 den_Passing_can
theorem eq_Passing_can : ∀ ds S, g_Passing_can ds S ≠ .no → runD 4 4 den_Passing_can ds S = g_Passing_can ds S := fun _ _ _ => rfl
theorem ok_Passing_can (T : Tx K mg Env.Place Env.Passing Env.DeskPlace Env.Visitor Env.Floor Env.cl_DeskPlace_first Env.tl_DeskPlace_first) {f : Addr} {fd : FuncData} (F : Fun K "can" "Passing.can" sPassing_can f fd) : FnOk P w K mg base (L2N.CX P w) 1 f fd ["self", "floor", "number", "turn"] (spG K g_Passing_can) := FnOk.by (raw_Passing_can T  F) eq_Passing_can
abbrev sPlace___init__ : Stmt := (inClass (top 2) 0)
abbrev NPlace___init__ : List Str := ["self", "told"]
theorem scPlace___init__ : FnScope NPlace___init__ ["self", "told"] (defScope sPlace___init__) := ⟨rfl, rfl, rfl, by decide +kernel, rfl, by decide +kernel, by decide +kernel⟩
noncomputable def den_Place___init__ : M Fl :=
    (dSetFA Cs_called "called" (dOp gIx (dVar 1) (dC (.int 1))) (dVar 0))
theorem raw_Place___init__ (T : Tx K mg Env.Place Env.Passing Env.DeskPlace Env.Visitor Env.Floor Env.cl_DeskPlace_first Env.tl_DeskPlace_first) {f : Addr} {fd : FuncData} (F : Fun K "__init__" "Place.__init__" sPlace___init__ f fd) : FnOk P w K mg base (L2N.CX P w) 1 f fd ["self", "told"] (spG K (runD 2 2 den_Place___init__)) := by
  have sc := scPlace___init__
  exact fn_ok (N := NPlace___init__) F sc rfl (by decide) fun cdv A outer s H E hr => ⟨_, ((bd_one (sd_fldA (fa_called T) (ed_var 0) (dd_ix (ed_var 1) ed_int (fun _ _ => rfl)))) : BD _ _ _ _ den_Place___init__)⟩
noncomputable def g_Place___init__ : G := runD 2 2 den_Place___init__
theorem eq_Place___init__ : ∀ ds S, g_Place___init__ ds S ≠ .no → runD 2 2 den_Place___init__ ds S = g_Place___init__ ds S := fun _ _ _ => rfl
theorem pinit (S : List Cell) (C : Addr) (hC : C ∈ Cs_called) (ds : List D) (n : Str) (h1 : atI ds 1 = some (.v (.str n))) : g_Place___init__ [.loc S.length, .tup ds] (S ++ [.ins C []]) = .ok (.v .non) (S ++ [.ins C (XF n)]) := by
  have t1 := tl_get S
  have t2 := tl_set S
  have p1 : putFD "called" (.v (.str n)) [] = XF n := rfl
  simp_arith [g_Place___init__, den_Place___init__, dFldA, dSetFA, dMethL, dMeth, insA, insD, dRGet, rdcD, dctD, keyD, dSt, dDAug, rol, spl, izl, gsl, Sdl, vcell, tilD, dFldAug, h1, t1, t2, hC, p1]
theorem ok_Place___init__ (T : Tx K mg Env.Place Env.Passing Env.DeskPlace Env.Visitor Env.Floor Env.cl_DeskPlace_first Env.tl_DeskPlace_first) {f : Addr} {fd : FuncData} (F : Fun K "__init__" "Place.__init__" sPlace___init__ f fd) : FnOk P w K mg base (L2N.CX P w) 1 f fd ["self", "told"] (spG K g_Place___init__) := FnOk.by (raw_Place___init__ T  F) eq_Place___init__
abbrev sPlace_can : Stmt := (inClass (top 2) 1)
abbrev NPlace_can : List Str := ["self", "floor", "number", "turn"]
theorem scPlace_can : FnScope NPlace_can ["self", "floor", "number", "turn"] (defScope sPlace_can) := ⟨rfl, rfl, rfl, by decide +kernel, rfl, by decide +kernel, by decide +kernel⟩
noncomputable def den_Place_can : M Fl :=
    (dRet (dD (dC (.bl false))))
theorem raw_Place_can (T : Tx K mg Env.Place Env.Passing Env.DeskPlace Env.Visitor Env.Floor Env.cl_DeskPlace_first Env.tl_DeskPlace_first) {f : Addr} {fd : FuncData} (F : Fun K "can" "Place.can" sPlace_can f fd) : FnOk P w K mg base (L2N.CX P w) 1 f fd ["self", "floor", "number", "turn"] (spG K (runD 4 4 den_Place_can)) := by
  have sc := scPlace_can
  exact fn_ok (N := NPlace_can) F sc rfl (by decide) fun cdv A outer s H E hr => ⟨_, ((bd_one (sd_ret (ED.d ed_bl))) : BD _ _ _ _ den_Place_can)⟩
noncomputable def g_Place_can : G := runD 4 4 den_Place_can
theorem eq_Place_can : ∀ ds S, g_Place_can ds S ≠ .no → runD 4 4 den_Place_can ds S = g_Place_can ds S := fun _ _ _ => rfl
theorem ok_Place_can (T : Tx K mg Env.Place Env.Passing Env.DeskPlace Env.Visitor Env.Floor Env.cl_DeskPlace_first Env.tl_DeskPlace_first) {f : Addr} {fd : FuncData} (F : Fun K "can" "Place.can" sPlace_can f fd) : FnOk P w K mg base (L2N.CX P w) 1 f fd ["self", "floor", "number", "turn"] (spG K g_Place_can) := FnOk.by (raw_Place_can T  F) eq_Place_can
abbrev sPlace_change : Stmt := (inClass (top 2) 4)
abbrev NPlace_change : List Str := ["self", "change"]
theorem scPlace_change : FnScope NPlace_change ["self", "change"] (defScope sPlace_change) := ⟨rfl, rfl, rfl, by decide +kernel, rfl, by decide +kernel, by decide +kernel⟩
noncomputable def den_Place_change : M Fl :=
    (dRet (dD (dC .non)))
theorem raw_Place_change (T : Tx K mg Env.Place Env.Passing Env.DeskPlace Env.Visitor Env.Floor Env.cl_DeskPlace_first Env.tl_DeskPlace_first) {f : Addr} {fd : FuncData} (F : Fun K "change" "Place.change" sPlace_change f fd) : FnOk P w K mg base (L2N.CX P w) 1 f fd ["self", "change"] (spG K (runD 2 2 den_Place_change)) := by
  have sc := scPlace_change
  exact fn_ok (N := NPlace_change) F sc rfl (by decide) fun cdv A outer s H E hr => ⟨_, ((bd_one (sd_ret (ED.d ed_non))) : BD _ _ _ _ den_Place_change)⟩
noncomputable def g_Place_change : G := runD 2 2 den_Place_change
theorem eq_Place_change : ∀ ds S, g_Place_change ds S ≠ .no → runD 2 2 den_Place_change ds S = g_Place_change ds S := fun _ _ _ => rfl
theorem ok_Place_change (T : Tx K mg Env.Place Env.Passing Env.DeskPlace Env.Visitor Env.Floor Env.cl_DeskPlace_first Env.tl_DeskPlace_first) {f : Addr} {fd : FuncData} (F : Fun K "change" "Place.change" sPlace_change f fd) : FnOk P w K mg base (L2N.CX P w) 1 f fd ["self", "change"] (spG K g_Place_change) := FnOk.by (raw_Place_change T  F) eq_Place_change
abbrev sPlace_moves : Stmt := (inClass (top 2) 2)
abbrev NPlace_moves : List Str := ["self", "floor", "number", "turn"]
theorem scPlace_moves : FnScope NPlace_moves ["self", "floor", "number", "turn"] (defScope sPlace_moves) := ⟨rfl, rfl, rfl, by decide +kernel, rfl, by decide +kernel, by decide +kernel⟩
noncomputable def den_Place_moves : M Fl :=
    (dRet (dTup (dCons (dD (dC (.str "stays"))) (dCons (dFldA Cs_called "called" (dVar 0)) dNil))))
theorem raw_Place_moves (T : Tx K mg Env.Place Env.Passing Env.DeskPlace Env.Visitor Env.Floor Env.cl_DeskPlace_first Env.tl_DeskPlace_first) {f : Addr} {fd : FuncData} (F : Fun K "moves" "Place.moves" sPlace_moves f fd) : FnOk P w K mg base (L2N.CX P w) 1 f fd ["self", "floor", "number", "turn"] (spG K (runD 4 4 den_Place_moves)) := by
  have sc := scPlace_moves
  exact fn_ok (N := NPlace_moves) F sc rfl (by decide) fun cdv A outer s H E hr => ⟨_, ((bd_one (sd_ret (dd_tup (ad_cons (ED.d ed_str) (ad_cons (dd_fldA (fa_called T) (ed_var 0)) ad_nil))))) : BD _ _ _ _ den_Place_moves)⟩
noncomputable def g_Place_moves : G := runD 4 4 den_Place_moves
theorem eq_Place_moves : ∀ ds S, g_Place_moves ds S ≠ .no → runD 4 4 den_Place_moves ds S = g_Place_moves ds S := fun _ _ _ => rfl
theorem ok_Place_moves (T : Tx K mg Env.Place Env.Passing Env.DeskPlace Env.Visitor Env.Floor Env.cl_DeskPlace_first Env.tl_DeskPlace_first) {f : Addr} {fd : FuncData} (F : Fun K "moves" "Place.moves" sPlace_moves f fd) : FnOk P w K mg base (L2N.CX P w) 1 f fd ["self", "floor", "number", "turn"] (spG K g_Place_moves) := FnOk.by (raw_Place_moves T  F) eq_Place_moves
abbrev sVisitor___init__ : Stmt := (inClass (top 13) 0)
abbrev NVisitor___init__ : List Str := ["self", "rank", "called", "since"]
theorem scVisitor___init__ : FnScope NVisitor___init__ ["self", "rank", "called", "since"] (defScope sVisitor___init__) := ⟨rfl, rfl, rfl, by decide +kernel, rfl, by decide +kernel, by decide +kernel⟩
noncomputable def den_Visitor___init__ : M Fl :=
    (dSeq (dSetFA Cs_grade "grade" (dD (dVar 1)) (dVar 0))
    (dSeq (dSetFA Cs_called "called" (dD (dVar 2)) (dVar 0))
    (dSeq (dSetFA Cs_since "since" (dD (dVar 3)) (dVar 0))
    (dSeq (dSetFA Cs_until "until" (dD (dC .non)) (dVar 0))
    (dSetFA Cs_things "things" (dSt (dLst dNil)) (dVar 0))))))
theorem raw_Visitor___init__ (T : Tx K mg Env.Place Env.Passing Env.DeskPlace Env.Visitor Env.Floor Env.cl_DeskPlace_first Env.tl_DeskPlace_first) {f : Addr} {fd : FuncData} (F : Fun K "__init__" "Visitor.__init__" sVisitor___init__ f fd) : FnOk P w K mg base (L2N.CX P w) 1 f fd ["self", "rank", "called", "since"] (spG K (runD 4 4 den_Visitor___init__)) := by
  have sc := scVisitor___init__
  exact fn_ok (N := NVisitor___init__) F sc rfl (by decide) fun cdv A outer s H E hr => ⟨_, ((bd_cons (sd_fldA (fa_grade T) (ed_var 0) (ED.d (ed_var 1)))
    (bd_cons (sd_fldA (fa_called T) (ed_var 0) (ED.d (ed_var 2)))
    (bd_cons (sd_fldA (fa_since T) (ed_var 0) (ED.d (ed_var 3)))
    (bd_cons (sd_fldA (fa_until T) (ed_var 0) (ED.d ed_non))
    (bd_one (sd_fldA (fa_things T) (ed_var 0) (dd_st (en_lst ad_nil)))))))) : BD _ _ _ _ den_Visitor___init__)⟩
noncomputable def g_Visitor___init__ : G := runD 4 4 den_Visitor___init__
theorem eq_Visitor___init__ : ∀ ds S, g_Visitor___init__ ds S ≠ .no → runD 4 4 den_Visitor___init__ ds S = g_Visitor___init__ ds S := fun _ _ _ => rfl
theorem vinit (S : List Cell) (r : Int) (n : Str) (z : Int) : g_Visitor___init__ [.loc S.length, .v (.int r), .v (.str n), .v (.int z)] (S ++ [.ins Env.Visitor []]) = .ok (.v .non) (S ++ [.ins Env.Visitor (VF (.v (.int r)) (.v (.str n)) (.v (.int z)) (.v .non) (.loc (S.length + 1))), .lst []]) := by
  have q1 : ∀ x : D, putFD "grade" x [] = ([("grade", x)] : List (Str × D)) := fun _ => rfl
  have q2 : ∀ x y : D, putFD "called" y [("grade", x)] = ([("grade", x), ("called", y)] : List (Str × D)) := fun _ _ => rfl
  have q3 : ∀ x y z : D, putFD "since" z [("grade", x), ("called", y)] = ([("grade", x), ("called", y), ("since", z)] : List (Str × D)) := fun _ _ _ => rfl
  have q4 : ∀ x y z u : D, putFD "until" u [("grade", x), ("called", y), ("since", z)] = ([("grade", x), ("called", y), ("since", z), ("until", u)] : List (Str × D)) := fun _ _ _ _ => rfl
  have q5 : ∀ x y z u w : D, putFD "things" w [("grade", x), ("called", y), ("since", z), ("until", u)] = VF x y z u w := fun _ _ _ _ _ => rfl
  have g1 := tl_get S
  have s1 := tl_set S
  have g2 := tl_get2 S
  have s2 := tl_set2 S
  have l2 : ∀ x, (S ++ [x]).length = S.length + 1 := fun x => by simp
  have ap : ∀ x y : Cell, (S ++ [x]) ++ [y] = S ++ [x, y] := fun x y => by simp
  simp_arith [g_Visitor___init__, den_Visitor___init__, dFldA, dSetFA, dMethL, dMeth, insA, insD, dRGet, rdcD, dctD, keyD, dSt, dDAug, rol, spl, izl, gsl, Sdl, vcell, tilD, dFldAug, lkV1, lkV2, lkV3, lkV4, lkV5, ptV1, ptV2, ptV3, lnV, lkF1, lkF2, lkF3, lkF4, lkF5, lkFa, lkFb, lkFc, lkFd, lkFe, lkFf, lkFg, lkFh, lkFi, lkFj, lkFk, lkFl, lkFm, lkFn, lkFo, lkFp, mC_Place_called, mC_Passing_called, mC_DeskPlace_called, mC_Visitor_called, mC_Passing_then, mC_DeskPlace_then, mC_DeskPlace_hands, mC_DeskPlace_takes, mC_DeskPlace_is_ranked, mC_DeskPlace_rests, mC_DeskPlace_begun, mC_Visitor_since, mC_Visitor_until, mC_Visitor_things, mC_Visitor_grade, mC_Floor_guests, mC_Floor_rows, mC_Floor_spots, mC_Floor_ranks, mC_Floor_pools, lkXF_called, lkXF_then, lkXF_takes, lkXF_hands, lkXF_is_ranked, lkXF_rests, lkXF_begun, lkXF_pool, lkXF_rule, lkXF_goals, lkXF_moved, lkXF_can, lkXF_moves, lkXF_clock, lkXF_change, lkXF_first, lkXF_served, lkXF_rests_at, lkXF_chosen, lkXF_is_open, lnXF, lkDF_called, lkDF_then, lkDF_takes, lkDF_hands, lkDF_is_ranked, lkDF_rests, lkDF_begun, lkDF_pool, lkDF_rule, lkDF_goals, lkDF_moved, lkDF_can, lkDF_moves, lkDF_clock, lkDF_change, lkDF_first, lkDF_served, lkDF_rests_at, lkDF_chosen, lkDF_is_open, lnDF, lkKF_called, lkKF_then, lkKF_takes, lkKF_hands, lkKF_is_ranked, lkKF_rests, lkKF_begun, lkKF_pool, lkKF_rule, lkKF_goals, lkKF_moved, lkKF_can, lkKF_moves, lkKF_clock, lkKF_change, lkKF_first, lkKF_served, lkKF_rests_at, lkKF_chosen, lkKF_is_open, lnKF, q1, q2, q3, q4, q5, g1, s1, g2, s2, l2, ap]
theorem ok_Visitor___init__ (T : Tx K mg Env.Place Env.Passing Env.DeskPlace Env.Visitor Env.Floor Env.cl_DeskPlace_first Env.tl_DeskPlace_first) {f : Addr} {fd : FuncData} (F : Fun K "__init__" "Visitor.__init__" sVisitor___init__ f fd) : FnOk P w K mg base (L2N.CX P w) 1 f fd ["self", "rank", "called", "since"] (spG K g_Visitor___init__) := FnOk.by (raw_Visitor___init__ T  F) eq_Visitor___init__
abbrev slaw_ahead : Stmt := (top 21)
abbrev Nlaw_ahead : List Str := ["_law_own", "_law_one", "_law_number"]
theorem sclaw_ahead : FnScope Nlaw_ahead ["_law_own", "_law_one", "_law_number"] (defScope slaw_ahead) := ⟨rfl, rfl, rfl, by decide +kernel, rfl, by decide +kernel, by decide +kernel⟩
noncomputable def den_law_ahead : M Fl :=
    (dSeq (dIfS (dAnd (dTru (okD (dOp gIx (okD (dRGet (dVar 0) (dD (dC (.str "desk"))))) (dC (.int 4))))) (dCmpT (gEq true) (okD (dOp gIx (okD (dRGet (dVar 0) (dD (dC (.str "ranks"))))) (dVar 1))) (okD (dOp gIx (okD (dRGet (dVar 0) (dD (dC (.str "ranks"))))) (dVar 2))))) (dRet (dOp (gI iGt) (okD (dOp gIx (okD (dRGet (dVar 0) (dD (dC (.str "ranks"))))) (dVar 1))) (okD (dOp gIx (okD (dRGet (dVar 0) (dD (dC (.str "ranks"))))) (dVar 2))))) dNx)
    (dRet (dOp (gI iLt) (okD (dIdx (okD (dRGet (dVar 0) (dD (dC (.str "row"))))) (dD (dVar 1)))) (okD (dIdx (okD (dRGet (dVar 0) (dD (dC (.str "row"))))) (dD (dVar 2)))))))
theorem raw_law_ahead (T : Tx K mg Env.Place Env.Passing Env.DeskPlace Env.Visitor Env.Floor Env.cl_DeskPlace_first Env.tl_DeskPlace_first) : Okf P w K mg base 1 "_law_ahead" ["_law_own", "_law_one", "_law_number"] (runD 3 3 den_law_ahead) := by
  have sc := sclaw_ahead
  exact ok_has (N := Nlaw_ahead) T.d_law_ahead sc rfl (by decide) fun f cdv A outer s H E hr => ⟨_, ((bd_cons (sd_if (td_w (wd_and (td_val (DD.e (dd_ix (DD.e (dd_rget (u1 hr) (ed_var 0) (ED.d ed_str))) ed_int (fun _ _ => rfl)))) (wd_and1 (td_cmp (cNe hr.units) (DD.e (dd_ix (DD.e (dd_rget (u1 hr) (ed_var 0) (ED.d ed_str))) (ed_var 1) (fun _ _ => rfl))) (DD.e (dd_ix (DD.e (dd_rget (u1 hr) (ed_var 0) (ED.d ed_str))) (ed_var 2) (fun _ _ => rfl))) (nomark _))))) (bd_one (sd_ret (dd_cmp cGt (DD.e (dd_ix (DD.e (dd_rget (u1 hr) (ed_var 0) (ED.d ed_str))) (ed_var 1) (fun _ _ => rfl))) (DD.e (dd_ix (DD.e (dd_rget (u1 hr) (ed_var 0) (ED.d ed_str))) (ed_var 2) (fun _ _ => rfl))) (nomark _)))) bd_nil)
    (bd_one (sd_ret (dd_cmp cLt (DD.e (dd_idxL (DD.e (dd_rget (u1 hr) (ed_var 0) (ED.d ed_str))) (ED.d (ed_var 1)))) (DD.e (dd_idxL (DD.e (dd_rget (u1 hr) (ed_var 0) (ED.d ed_str))) (ED.d (ed_var 2)))) (nomark _))))) : BD _ _ _ _ den_law_ahead)⟩
noncomputable def g_law_ahead : G := runD 3 3 den_law_ahead
theorem eq_law_ahead : ∀ ds S, g_law_ahead ds S ≠ .no → runD 3 3 den_law_ahead ds S = g_law_ahead ds S := fun _ _ _ => rfl

/-- the law's own desk -/
structure Kt where
  dn : Str
  en : Str
  kk : Bool
  rs : List (Int × Int)
  qo : Nat
  qr : Nat
  qk : Nat
  qs : Nat
  qu : Nat
def deskD (t : Kt) (hd : Int) (ts : List Int) : D := rowT (.desk t.dn hd ts t.kk t.rs t.en)
def ownD (t : Kt) (hd : Int) (ts : List Int) (c : Int) : List (Key × D) := [(.inr "desk", deskD t hd ts), (.inr "row", .loc t.qr), (.inr "ranks", .loc t.qk), (.inr "since", .loc t.qs), (.inr "until", .loc t.qu), (.inr "begun", .v (.int c))]
section
variable (t : Kt) (hd : Int) (ts : List Int) (c : Int)
theorem ow_desk : valD (ownD t hd ts c) (.inr "desk") = some (deskD t hd ts) := rfl
theorem ow_row : valD (ownD t hd ts c) (.inr "row") = some (.loc t.qr) := rfl
theorem ow_ranks : valD (ownD t hd ts c) (.inr "ranks") = some (.loc t.qk) := rfl
theorem ow_since : valD (ownD t hd ts c) (.inr "since") = some (.loc t.qs) := rfl
theorem ow_until : valD (ownD t hd ts c) (.inr "until") = some (.loc t.qu) := rfl
theorem ow_begun : valD (ownD t hd ts c) (.inr "begun") = some (.v (.int c)) := rfl
theorem op_begun (c' : Int) : putD (ownD t hd ts c) (.inr "begun") (.v (.int c')) = ownD t hd ts c' := rfl
theorem ow_len : (ownD t hd ts c).length = 6 := rfl
theorem dk1 : atI (Sta.desk t.dn hd ts t.kk t.rs t.en).row 1 = some (.v (.str t.dn)) := rfl
theorem dk2 : atI (Sta.desk t.dn hd ts t.kk t.rs t.en).row 2 = some (.v (.int hd)) := rfl
theorem dk3 : atI (Sta.desk t.dn hd ts t.kk t.rs t.en).row 3 = some (.tup (ts.map I)) := rfl
theorem dk4 : atI (Sta.desk t.dn hd ts t.kk t.rs t.en).row 4 = some (.v (.bl t.kk)) := rfl
theorem dk5 : atI (Sta.desk t.dn hd ts t.kk t.rs t.en).row 5 = some (.tup (t.rs.map pD)) := rfl
theorem dk6 : atI (Sta.desk t.dn hd ts t.kk t.rs t.en).row 6 = some (.v (.str t.en)) := rfl
end
structure OwnAt (t : Kt) (hd : Int) (ts : List Int) (c : Int) (row : List Int) (RK SL UL : List D) (S : List Cell) : Prop where
  o : S[t.qo]? = some (.dct (ownD t hd ts c))
  r : S[t.qr]? = some (.lst (row.map I))
  k : S[t.qk]? = some (.lst RK)
  s : S[t.qs]? = some (.lst SL)
  u : S[t.qu]? = some (.lst UL)
theorem get_push {S : List Cell} {a : Nat} {x : Cell} (h : S[a]? = some x) (U : List Cell) : (S ++ U)[a]? = some x := by
  rw [List.getElem?_append_left (List.getElem?_eq_some_iff.mp h).1]
  exact h
theorem OwnAt.push {t : Kt} {hd : Int} {ts : List Int} {c : Int} {row : List Int} {RK SL UL : List D} {S : List Cell} (h : OwnAt t hd ts c row RK SL UL S) (U : List Cell) : OwnAt t hd ts c row RK SL UL (S ++ U) :=
  ⟨get_push h.o U, get_push h.r U, get_push h.k U, get_push h.s U, get_push h.u U⟩
/-- rank and turns of those who stand there -/
structure Own3 (row : List Int) (RK SL UL : List D) (g sn : Int → Int) (u : Int → Option Int) : Prop where
  k : ∀ x ∈ row, atI RK x = some (.v (.int (g x)))
  s : ∀ x ∈ row, atI SL x = some (.v (.int (sn x)))
  u : ∀ x ∈ row, atI UL x = some (tilD (u x))
def ahB (kk : Bool) (g : Int → Int) (row : List Int) (y x : Int) : Bool := if kk = true ∧ g y ≠ g x then decide (g x < g y) else decide (row.idxOf y < row.idxOf x)
theorem ahead_ok {t : Kt} {hd : Int} {ts : List Int} {c : Int} {row : List Int} {RK SL UL : List D} {S : List Cell} (h : OwnAt t hd ts c row RK SL UL S) {g sn : Int → Int} {u : Int → Option Int} (h3 : Own3 row RK SL UL g sn u) {x y : Int} (hx : x ∈ row) (hy : y ∈ row) : g_law_ahead [.loc t.qo, .v (.int y), .v (.int x)] S = .ok (.v (.bl (ahB t.kk g row y x))) S := by
  have o := h.o
  have r := h.r
  have k := h.k
  have kx := h3.k x hx
  have ky := h3.k y hy
  have v := vsD_ints row
  have ix := idxV_ints x hx
  have iy := idxV_ints y hy
  have fx : flatV (V.int x) = true := rfl
  have fy : flatV (V.int y) = true := rfl
  have d4 := dk4 t hd ts
  have od := ow_desk t hd ts c
  have orr := ow_row t hd ts c
  have ork := ow_ranks t hd ts c
  unfold deskD rowT at od
  unfold ahB
  have il : (((row.idxOf y : Nat) : Int) < ((row.idxOf x : Nat) : Int)) = (row.idxOf y < row.idxOf x) := by rw [Int.ofNat_lt]
  generalize (Sta.desk t.dn hd ts t.kk t.rs t.en).row = dr at *
  generalize ownD t hd ts c = ow at *
  generalize row.map V.int = RV at *
  generalize row.map I = RI at *
  by_cases q : t.kk = true
  · rw [q] at d4 ⊢
    by_cases q2 : g y = g x
    · have e1 : decide (g y = g x) = true := decide_eq_true q2
      rw [if_neg (fun z => z.2 q2)]
      simp_arith [g_law_ahead, den_law_ahead, dRGet, rdcD, dctD, keyD, dIdx, dPut, dAugL, dDAug, dDPut, dSt, o, r, k, od, orr, ork, d4, kx, ky, v, ix, iy, fx, fy, il, e1, -vsD]
    · have e1 : decide (g y = g x) = false := decide_eq_false q2
      rw [if_pos ⟨rfl, q2⟩]
      simp_arith [g_law_ahead, den_law_ahead, dRGet, rdcD, dctD, keyD, dIdx, dPut, dAugL, dDAug, dDPut, dSt, o, r, k, od, orr, ork, d4, kx, ky, e1, gt_iff_lt, -vsD]
  · have q : t.kk = false := by simpa using q
    rw [q] at d4 ⊢
    rw [if_neg (fun z => by cases z.1)]
    simp_arith [g_law_ahead, den_law_ahead, dRGet, rdcD, dctD, keyD, dIdx, dPut, dAugL, dDAug, dDPut, dSt, o, r, k, od, orr, ork, d4, kx, ky, v, ix, iy, fx, fy, il, -vsD]
theorem ok_law_ahead (T : Tx K mg Env.Place Env.Passing Env.DeskPlace Env.Visitor Env.Floor Env.cl_DeskPlace_first Env.tl_DeskPlace_first) : Okf P w K mg base 1 "_law_ahead" ["_law_own", "_law_one", "_law_number"] g_law_ahead := (raw_law_ahead T ).by eq_law_ahead
abbrev slaw_cell_at : Stmt := (top 16)
abbrev Nlaw_cell_at : List Str := ["_law_script", "_law_k"]
theorem sclaw_cell_at : FnScope Nlaw_cell_at ["_law_script", "_law_k"] (defScope slaw_cell_at) := ⟨rfl, rfl, rfl, by decide +kernel, rfl, by decide +kernel, by decide +kernel⟩
noncomputable def den_law_cell_at : M Fl :=
    (dSeq (dIfS (dCmpT (gI iLt) (dVar 1) (okD (M.bind (dVar 0) gLen))) (dRet (dOp gIx (dVar 0) (dVar 1))) dNx)
    (dRet (dD (dC (.int 0)))))
theorem raw_law_cell_at (T : Tx K mg Env.Place Env.Passing Env.DeskPlace Env.Visitor Env.Floor Env.cl_DeskPlace_first Env.tl_DeskPlace_first) : Okf P w K mg base 1 "_law_cell_at" ["_law_script", "_law_k"] (runD 2 2 den_law_cell_at) := by
  have sc := sclaw_cell_at
  exact ok_has (N := Nlaw_cell_at) T.d_law_cell_at sc rfl (by decide) fun f cdv A outer s H E hr => ⟨_, ((bd_cons (sd_if (td_cmp cLt (ed_var 1) (DD.e (dd_b1 bLen (by rfl) T.n_len (by decide +kernel) (ed_var 0))) (nomark _)) (bd_one (sd_ret (dd_ix (ed_var 0) (ed_var 1) (fun _ _ => rfl)))) bd_nil)
    (bd_one (sd_ret (ED.d ed_int)))) : BD _ _ _ _ den_law_cell_at)⟩

def g_law_cell_at : G := fun ds S => match ds with
  | [.scr es, .v (.int k)] => match intsD es with
    | some ns => if 0 ≤ k then .ok (.v (.int (ns.getD k.toNat 0))) S else .no
    | none => .no
  | _ => .no
theorem eq_law_cell_at : ∀ ds S, g_law_cell_at ds S ≠ .no → runD 2 2 den_law_cell_at ds S = g_law_cell_at ds S := fun ds S h => by
  unfold g_law_cell_at at h ⊢
  split at h
  · next es k =>
    split at h
    · next ns hn =>
      split at h
      · next hk =>
        rw [if_pos hk]
        rw [intsD_eq hn]
        by_cases hl : k < ns.length
        · have a1 : atI (ns.map I) k = some (.v (.int (ns.getD k.toNat 0))) := atI_map (f := I) hk hl
          simp_arith [den_law_cell_at, hl, List.length_map, a1]
        · have e : ns.getD k.toNat 0 = 0 := by
            rw [List.getD_eq_getElem?_getD, List.getElem?_eq_none (by omega)]
            rfl
          simp_arith [den_law_cell_at, hl, List.length_map, e]
      · exact absurd rfl h
    · exact absurd rfl h
  · exact absurd rfl h
theorem gc (ns : List Int) (k : Int) (S : List Cell) (h : 0 ≤ k) : g_law_cell_at [scr ns, .v (.int k)] S = .ok (.v (.int (ns.getD k.toNat 0))) S := by
  show (match intsD (ns.map I) with | some ns => if 0 ≤ k then RF.ok (.v (.int (ns.getD k.toNat 0))) S else .no | none => .no) = _
  rw [intsD_map]
  exact if_pos h
theorem ok_law_cell_at (T : Tx K mg Env.Place Env.Passing Env.DeskPlace Env.Visitor Env.Floor Env.cl_DeskPlace_first Env.tl_DeskPlace_first) : Okf P w K mg base 1 "_law_cell_at" ["_law_script", "_law_k"] g_law_cell_at := (raw_law_cell_at T ).by eq_law_cell_at
abbrev slaw_mixed : Stmt := (top 17)
abbrev Nlaw_mixed : List Str := ["_law_cell", "_law_k"]
theorem sclaw_mixed : FnScope Nlaw_mixed ["_law_cell", "_law_k"] (defScope slaw_mixed) := ⟨rfl, rfl, rfl, by decide +kernel, rfl, by decide +kernel, by decide +kernel⟩
noncomputable def den_law_mixed : M Fl :=
    (dRet (dOp gMod (okD (dOp gAdd (okD (dOp gMul (okD (dOp gAdd (okD (dOp gMod (dVar 0) (dC (.int 1000003)))) (dC (.int 7)))) (okD (dOp gAdd (okD (dOp gMul (okD (dOp gMul (dC (.int 31)) (dVar 1))) (dVar 1))) (dC (.int 48271)))))) (okD (dOp gMul (okD (dOp gDiv (dVar 0) (dC (.int 1000003)))) (dC (.int 16807)))))) (dC (.int 2147483629))))
theorem raw_law_mixed (T : Tx K mg Env.Place Env.Passing Env.DeskPlace Env.Visitor Env.Floor Env.cl_DeskPlace_first Env.tl_DeskPlace_first) : Okf P w K mg base 1 "_law_mixed" ["_law_cell", "_law_k"] (runD 2 2 den_law_mixed) := by
  have sc := sclaw_mixed
  exact ok_has (N := Nlaw_mixed) T.d_law_mixed sc rfl (by decide) fun f cdv A outer s H E hr => ⟨_, ((bd_one (sd_ret (dd_mod (DD.e (dd_add (DD.e (dd_mul (DD.e (dd_add (DD.e (dd_mod (ed_var 0) ed_int)) ed_int)) (DD.e (dd_add (DD.e (dd_mul (DD.e (dd_mul ed_int (ed_var 1))) (ed_var 1))) ed_int)))) (DD.e (dd_mul (DD.e (dd_div (ed_var 0) ed_int)) ed_int)))) ed_int))) : BD _ _ _ _ den_law_mixed)⟩

def g_law_mixed : G := fun ds S => match ds with
  | [.v (.int c), .v (.int k)] => if k.natAbs < 2 ^ 64 then .ok (.v (.int (mixed c k))) S else .no
  | _ => .no
theorem eq_law_mixed : ∀ ds S, g_law_mixed ds S ≠ .no → runD 2 2 den_law_mixed ds S = g_law_mixed ds S := fun ds S h => by
  unfold g_law_mixed at h ⊢
  split at h
  · next c k =>
    split at h
    · next hk =>
      rw [if_pos hk]
      have b := fmod_bd (c := c) (m := 1000003) (by decide)
      have m1 : mulOk 31 k := mulOk_l (by decide)
      have m2 : mulOk (31 * k) k := mulOk_r hk
      have m3 : mulOk (c.fmod 1000003 + 7) (31 * k * k + 48271) := mulOk_l (by omega)
      have m4 : mulOk (c.fdiv 1000003) 16807 := mulOk_r (by decide)
      have d1 : divOk 1000003 := divOk_s (by decide) (by decide)
      simp_arith [den_law_mixed, m1, m2, m3, m4, d1, mixed]
    · exact absurd rfl h
  · exact absurd rfl h
theorem gx (c k : Int) (S : List Cell) (h : k.natAbs < 2 ^ 64) : g_law_mixed [.v (.int c), .v (.int k)] S = .ok (.v (.int (mixed c k))) S := if_pos h
theorem ok_law_mixed (T : Tx K mg Env.Place Env.Passing Env.DeskPlace Env.Visitor Env.Floor Env.cl_DeskPlace_first Env.tl_DeskPlace_first) : Okf P w K mg base 1 "_law_mixed" ["_law_cell", "_law_k"] g_law_mixed := (raw_law_mixed T ).by eq_law_mixed
abbrev slaw_names : Stmt := (top 18)
abbrev Nlaw_names : List Str := ["_law_cell", "_law_size", "_law_at", "_law_rest", "_law_found", "_law_k", "_law_row", "_law_j"]
theorem sclaw_names : FnScope Nlaw_names ["_law_cell"] (defScope slaw_names) := ⟨rfl, rfl, rfl, by decide +kernel, rfl, by decide +kernel, by decide +kernel⟩
noncomputable def flaw_names1b : M Fl :=
    (dSeq (dSetN 6 (dListOf (dVar 3)))
    (dSeq (dPut (dOp gIx (dC (.str "abcdefghijklmnopqrstuvwxyz")) (okD (dOp gMod (okD (dOp gAdd (okD (dOp gDiv (dVar 0) (dC (.int 17)))) (dVar 5))) (dC (.int 26))))) (dVar 6) (dD (dVar 2)))
    (dDrop (okD (dApp (dVar 4) (dJoinS (dC (.str "")) (dVar 6)))))))
noncomputable def claw_names1e : M D :=
    (dOp gIx (dC (.str "qzjv")) (okD (dOp gMod (okD (dOp gDiv (dVar 0) (okD (dOp gAdd (dC (.int 49)) (okD (dOp gMul (dC (.int 13)) (dVar 7))))))) (dC (.int 4)))))
noncomputable def den_law_names : M Fl :=
    (dSeq (dSet 1 (dOp gAdd (dC (.int 2)) (okD (dOp gMod (dVar 0) (dC (.int 7))))))
    (dSeq (dSet 2 (dOp gMod (okD (dOp gDiv (dVar 0) (dC (.int 7)))) (dVar 1)))
    (dSeq (dSetN 3 (dLc (M.bind (dCons (dD (dVar 1)) dNil) rng1X) (dName 7) (M.pure true) claw_names1e [7]))
    (dSeq (dSetN 4 (dLst dNil))
    (dSeq (dFor (M.bind (dCons (dD (dC (.int 22))) dNil) rng1X) (dName 5) flaw_names1b)
    (dRet (dD (dVar 4))))))))
theorem raw_law_names (T : Tx K mg Env.Place Env.Passing Env.DeskPlace Env.Visitor Env.Floor Env.cl_DeskPlace_first Env.tl_DeskPlace_first) : Okf P w K mg base 1 "_law_names" ["_law_cell"] (runD 8 1 den_law_names) := by
  have sc := sclaw_names
  exact ok_has (N := Nlaw_names) T.d_law_names sc rfl (by decide) fun f cdv A outer s H E hr => ⟨_, ((bd_cons (sd_set (i := 1) sc.nd rfl (by first | exact Or.inl rfl | exact Or.inr rfl) (dd_add ed_int (DD.e (dd_mod (ed_var 0) ed_int))))
    (bd_cons (sd_set (i := 2) sc.nd rfl (by first | exact Or.inl rfl | exact Or.inr rfl) (dd_mod (DD.e (dd_div (ed_var 0) ed_int)) (ed_var 1)))
    (bd_cons (sd_setLc (i := 3) (own := [("_law_j", 7)]) (W' := W0) rfl sc.nd rfl rfl (sw_true rfl rfl rfl (by decide +kernel)) (id_range1 (by rfl) T.n_range (ad_cons (ED.d (ed_var 1)) ad_nil)) (blkOk_by (N := Nlaw_names) (sc := defScope slaw_names) (by decide +kernel)) (fun _ _ _ _ _ => (gd_name (i := 7) sc.nd rfl (by first | exact Or.inl rfl | exact Or.inr rfl))) (fun _ _ _ _ _ => tsd_nil) (fun _ _ _ _ _ => (dd_ix ed_str (DD.e (dd_mod (DD.e (dd_div (ed_var 0) (DD.e (dd_add ed_int (DD.e (dd_mul ed_int (ed_var 7))))))) ed_int)) (fun _ _ => rfl))))
    (bd_cons (sd_setN (i := 4) sc.nd rfl (by first | exact Or.inl rfl | exact Or.inr rfl) (en_lst ad_nil))
    (bd_cons (sd_for (passes_of rfl) rfl (id_range1 (by rfl) T.n_range (ad_cons (ED.d ed_int) ad_nil)) (gd_name (i := 5) sc.nd rfl (by first | exact Or.inl rfl | exact Or.inr rfl)) (bd_cons (sd_setN (i := 6) sc.nd rfl (by first | exact Or.inl rfl | exact Or.inr rfl) (en_listOf (by rfl) T.n_list (by decide +kernel) (ed_var 3)))
    (bd_cons (sd_put (dd_ix ed_str (DD.e (dd_mod (DD.e (dd_add (DD.e (dd_div (ed_var 0) ed_int)) (ed_var 5))) ed_int)) (fun _ _ => rfl)) (ed_var 6) (ED.d (ed_var 2)))
    (bd_one (sd_expr (DD.e (dd_append (ed_var 4) (dd_join ed_str (ed_var 6)))))))))
    (bd_one (sd_ret (ED.d (ed_var 4))))))))) : BD _ _ _ _ den_law_names)⟩
noncomputable def g_law_names : G := runD 8 1 den_law_names
theorem eq_law_names : ∀ ds S, g_law_names ds S ≠ .no → runD 8 1 den_law_names ds S = g_law_names ds S := fun _ _ _ => rfl
theorem names_rest (c s : Int) (S : List Cell) (hs : s = nsz c) (x2 : Slot) (r0 : List Slot) (x1 x4 x5 x6 : Slot) : itL (dName 7) (M.pure true) claw_names1e [7] r0 (rngD 0 s.toNat) [] ⟨[.d (.v (.int c)), x1, x2, .no, x4, x5, x6, .no], S⟩ = .ok (((nrest c).map ch).map fun y => D.v (V.str y)) ⟨[.d (.v (.int c)), x1, x2, .no, x4, x5, x6, .no], S⟩ := by
  have b := nsz_bd c
  rw [itL_map (w := [.d (.v (.int c)), x1, x2, .no, x4, x5, x6, .no]) (S := S) (p := fun _ => true) (f := fun d => match d with | .v (.int j) => .v (.str (ch (qzI c j))) | _ => d) (rngD 0 s.toNat) [] _ rfl rfl (by simp [rngD]; omega) (fun d hd => by
    unfold rngD at hd
    obtain ⟨k, hk, rfl⟩ := List.mem_map.mp hd
    have hk8 : k < 8 := by have := List.mem_range.mp hk; omega
    obtain ⟨z, hz⟩ : ∃ z : Int, z = 0 + ((k : Nat) : Int) := ⟨_, rfl⟩
    rw [← hz]
    have m1 : mulOk 13 z := mulOk_l (by decide)
    have dv : divOk (49 + 13 * z) := divOk_s (by omega) (by omega)
    have a1 : atI (("qzjv" : Str)).cps.toList ((c.fdiv (49 + 13 * z)).fmod 4) = some (qzI c z) := by
      rw [qzjv]
      have := atI_fmod (f := fun k : Nat => k) (xs := [113, 122, 106, 118]) (c := c.fdiv (49 + 13 * z)) (m := 4) (d := 0) rfl (by decide)
      simpa [qzI] using this
    have l4 : ((("qzjv" : Str)).length ≤ 1000000) := by decide
    refine ⟨_, rfl, _, rfl, rfl, rfl, fun _ => ⟨⟨[.d (.v (.int c)), x1, x2, .no, x4, x5, x6, .d (.v (.int z))], S⟩, ?_, rfl, rfl⟩⟩
    simp_arith [claw_names1e, m1, dv, a1, l4, ch])]
  rw [List.filter_eq_self.mpr (fun _ _ => rfl), List.nil_append, hs]
  unfold nrest rngD
  rw [List.map_map, List.map_map, List.map_map]
  rfl
theorem names_ok0 (c : Int) (S : List Cell) : g_law_names [.v (.int c)] S = .ok (.lst ((List.range 22).map fun k => D.v (V.str (nm c k)))) S := by
  have b := nsz_bd c
  have bp := npos_bd c
  obtain ⟨s, hs⟩ : ∃ s, s = nsz c := ⟨_, rfl⟩
  obtain ⟨p, hp⟩ : ∃ p, p = npos c := ⟨_, rfl⟩
  have d7 : divOk 7 := divOk_s (by decide) (by decide)
  have d17 : divOk 17 := divOk_s (by decide) (by decide)
  have er : ∀ c', rng1X [.v (.int s)] c' = .ok (rngD 0 s.toNat) c' := fun c' => by
    unfold rng1X
    dsimp only
    rw [if_pos (by omega)]
    rfl
  have er2 : ∀ c', rng1X [.v (.int 22)] c' = .ok (rngD 0 22) c' := fun c' => rfl
  have e1 : 2 + c.fmod 7 = s := hs.symm
  have e2 : (c.fdiv 7).fmod s = p := by rw [hs, hp]; rfl
  have s0 : s ≠ 0 := by omega
  have NR := names_rest c s S hs (.d (.v (.int p)))
  obtain ⟨c', e, x5, x6, rfl⟩ := itF_inv (dg := dName 5) (db := flaw_names1b) (Inv := fun j c' => ∃ x5 x6, c' = ⟨[.d (.v (.int c)), .d (.v (.int s)), .d (.v (.int p)), .own (.lst (((nrest c).map ch).map fun y => D.v (V.str y))), .own (.lst ((List.range j).map fun k => D.v (V.str (nm c k)))), x5, x6, .no], S⟩) (rngD 0 22) 0 ⟨[.d (.v (.int c)), .d (.v (.int s)), .d (.v (.int p)), .own (.lst (((nrest c).map ch).map fun y => D.v (V.str y))), .own (.lst []), .no, .no, .no], S⟩ ⟨_, _, rfl⟩ (fun j d c' q hc => by
    obtain ⟨x5, x6, rfl⟩ := hc
    unfold rngD at q
    rw [List.getElem?_map] at q
    obtain ⟨k, hk, rfl⟩ := Option.map_eq_some_iff.mp q
    obtain ⟨h1, h2⟩ := List.getElem?_eq_some_iff.mp hk
    simp at h1 h2
    subst h2
    obtain ⟨z, hz⟩ : ∃ z : Int, z = 0 + ((j : Nat) : Int) := ⟨_, rfl⟩
    rw [← hz, Nat.zero_add]
    have bz := fmod_bd (c := c.fdiv 17 + z) (m := 26) (by decide)
    have a1 : atI (("abcdefghijklmnopqrstuvwxyz" : Str)).cps.toList ((c.fdiv 17 + z).fmod 26) = some (nlet c j) := by
      rw [abc26, atI_map (d := 0) bz.1 (by rw [List.length_range]; exact bz.2)]
      have hlt : ((c.fdiv 17 + z).fmod 26).toNat < 26 := by omega
      rw [List.getD_eq_getElem?_getD, List.getElem?_range hlt]
      unfold nlet
      rw [hz, Int.zero_add]
      rfl
    have l26 : ((("abcdefghijklmnopqrstuvwxyz" : Str)).length ≤ 1000000) := by decide
    have hl := nrest_len c
    have i1 : ixN (nrest c).length p = some p.toNat := by
      unfold ixN
      rw [if_pos (by omega), if_pos (by omega)]
    have es : (((nrest c).map ch).map fun y => D.v (V.str y)).set p.toNat (D.v (V.str ⟨#[nlet c j]⟩)) = ((((nrest c).set p.toNat (nlet c j)).map ch).map fun y => D.v (V.str y)) := by
      rw [List.map_set, List.map_set]
      rfl
    have hj : (((((nrest c).set p.toNat (nlet c j)).map ch).map (·.length)).sum + ((nrest c).set p.toNat (nlet c j)).length * (("" : Str)).length ≤ 1000000) := by
      rw [ch_len]
      have : (("" : Str)).length = 0 := rfl
      rw [this, Nat.mul_zero, List.length_set]
      omega
    have hnm : Txt.join ("" : Str) (((nrest c).set p.toNat (nlet c j)).map ch) = nm c j := by rw [hp]; rfl
    have hll : (List.range j).length < 1000000 := by rw [List.length_range]; omega
    have em : ((List.range (j + 1)).map fun k => D.v (V.str (nm c k))) = ((List.range j).map fun k => D.v (V.str (nm c k))) ++ [D.v (V.str (nm c j))] := by
      rw [List.range_succ, List.map_append]
      rfl
    refine ⟨_, rfl, .nx, ⟨[.d (.v (.int c)), .d (.v (.int s)), .d (.v (.int p)), .own (.lst (((nrest c).map ch).map fun y => D.v (V.str y))), .own (.lst ((List.range (j + 1)).map fun k => D.v (V.str (nm c k)))), .d (.v (.int z)), .own (.lst ((((nrest c).set p.toNat (nlet c j)).map ch).map fun y => D.v (V.str y))), .no], S⟩, ?_, .inl rfl, .d (.v (.int z)), .own (.lst ((((nrest c).set p.toNat (nlet c j)).map ch).map fun y => D.v (V.str y))), rfl⟩
    rw [em]
    simp_arith [flaw_names1b, dPut, dJoinS, dIsStr, strsO, d17, a1, l26, i1, es, strsD_map, hj, hnm, hll, List.length_map, -List.map_cons, -List.map_nil])
  have en2 : (rngD 0 22).length = 22 := by simp [rngD]
  rw [en2] at e
  simp_arith [g_law_names, den_law_names, d7, e1, e2, s0, er, er2, NR, e, -rng1X, -itL]

theorem names_ok (c : Int) (S : List Cell) : g_law_names [.v (.int c)] S = .ok (.lst (Ss (nms c))) S := by
  rw [names_ok0]
  unfold nms Ss
  rw [List.map_map]
  rfl
theorem ok_law_names (T : Tx K mg Env.Place Env.Passing Env.DeskPlace Env.Visitor Env.Floor Env.cl_DeskPlace_first Env.tl_DeskPlace_first) : Okf P w K mg base 1 "_law_names" ["_law_cell"] g_law_names := (raw_law_names T ).by eq_law_names
theorem ok_B_Place___init__ (T : Tx K mg Env.Place Env.Passing Env.DeskPlace Env.Visitor Env.Floor Env.cl_DeskPlace_first Env.tl_DeskPlace_first) : Okb P w K mg base 1 "Place" "__init__" ["self", "told"] g_Place___init__ := okb_of T.b_Place_init__ (by decide) fun F => ok_Place___init__ T  F
theorem ok_I_Place (T : Tx K mg Env.Place Env.Passing Env.DeskPlace Env.Visitor Env.Floor Env.cl_DeskPlace_first Env.tl_DeskPlace_first) : Okc P w K mg base 1 "Place" Env.Place ["self", "told"] g_Place___init__ := okc_of T.i_Place (by decide) fun F => ok_Place___init__ T  F
theorem ok_I_Visitor (T : Tx K mg Env.Place Env.Passing Env.DeskPlace Env.Visitor Env.Floor Env.cl_DeskPlace_first Env.tl_DeskPlace_first) : Okc P w K mg base 1 "Visitor" Env.Visitor ["self", "rank", "called", "since"] g_Visitor___init__ := okc_of T.i_Visitor (by decide) fun F => ok_Visitor___init__ T  F
noncomputable def L_at_1 : List (Addr × G) := [(Env.Floor, g_Floor_at)]
theorem ok_M_at_1 (T : Tx K mg Env.Place Env.Passing Env.DeskPlace Env.Visitor Env.Floor Env.cl_DeskPlace_first Env.tl_DeskPlace_first) : OkmL P w K mg base 1 L_at_1 "at" ["self", "name"] := fun p hp => by
  simp only [L_at_1, List.mem_cons, List.not_mem_nil, or_false] at hp
  rcases hp with rfl
  · exact ⟨okm_of T.m_Floor_at_1 (by decide) fun F => ok_Floor_at T  F, T.c_Floor⟩
noncomputable def L_change_1_P : List (Addr × G) := [(Env.Place, g_Place_change), (Env.Passing, g_Place_change), (Env.DeskPlace, g_DeskPlace_change)]
theorem ok_M_change_1_P (T : Tx K mg Env.Place Env.Passing Env.DeskPlace Env.Visitor Env.Floor Env.cl_DeskPlace_first Env.tl_DeskPlace_first) : OkmL P w K mg base 1 L_change_1_P "change" ["self", "change"] := fun p hp => by
  simp only [L_change_1_P, List.mem_cons, List.not_mem_nil, or_false] at hp
  rcases hp with rfl | rfl | rfl
  · exact ⟨okm_of T.m_Place_change_1 (by decide) fun F => ok_Place_change T  F, T.c_Place⟩
  · exact ⟨okm_of T.m_Passing_change_1 (by decide) fun F => ok_Place_change T  F, T.c_Passing⟩
  · exact ⟨okm_of T.m_DeskPlace_change_1 (by decide) fun F => ok_DeskPlace_change T  F, T.c_DeskPlace⟩
noncomputable def L_enter_3 : List (Addr × G) := [(Env.Floor, g_Floor_enter)]
theorem ok_M_enter_3 (T : Tx K mg Env.Place Env.Passing Env.DeskPlace Env.Visitor Env.Floor Env.cl_DeskPlace_first Env.tl_DeskPlace_first) : OkmL P w K mg base 1 L_enter_3 "enter" ["self", "number", "name", "turn"] := fun p hp => by
  simp only [L_enter_3, List.mem_cons, List.not_mem_nil, or_false] at hp
  rcases hp with rfl
  · exact ⟨okm_of T.m_Floor_enter_3 (by decide) fun F => ok_Floor_enter T  F, T.c_Floor⟩
noncomputable def L_place_1 : List (Addr × G) := [(Env.Floor, g_Floor_place)]
theorem ok_M_place_1 (T : Tx K mg Env.Place Env.Passing Env.DeskPlace Env.Visitor Env.Floor Env.cl_DeskPlace_first Env.tl_DeskPlace_first) : OkmL P w K mg base 1 L_place_1 "place" ["self", "number"] := fun p hp => by
  simp only [L_place_1, List.mem_cons, List.not_mem_nil, or_false] at hp
  rcases hp with rfl
  · exact ⟨okm_of T.m_Floor_place_1 (by decide) fun F => ok_Floor_place T  F, T.c_Floor⟩
noncomputable def L_rank_1 : List (Addr × G) := [(Env.Floor, g_Floor_rank)]
theorem ok_M_rank_1 (T : Tx K mg Env.Place Env.Passing Env.DeskPlace Env.Visitor Env.Floor Env.cl_DeskPlace_first Env.tl_DeskPlace_first) : OkmL P w K mg base 1 L_rank_1 "rank" ["self", "number"] := fun p hp => by
  simp only [L_rank_1, List.mem_cons, List.not_mem_nil, or_false] at hp
  rcases hp with rfl
  · exact ⟨okm_of T.m_Floor_rank_1 (by decide) fun F => ok_Floor_rank T  F, T.c_Floor⟩
noncomputable def L_rests_at_1 : List (Addr × G) := [(Env.DeskPlace, g_DeskPlace_rests_at)]
theorem ok_M_rests_at_1 (T : Tx K mg Env.Place Env.Passing Env.DeskPlace Env.Visitor Env.Floor Env.cl_DeskPlace_first Env.tl_DeskPlace_first) : OkmL P w K mg base 1 L_rests_at_1 "rests_at" ["self", "turn"] := fun p hp => by
  simp only [L_rests_at_1, List.mem_cons, List.not_mem_nil, or_false] at hp
  rcases hp with rfl
  · exact ⟨okm_of T.m_DeskPlace_rests_at_1 (by decide) fun F => ok_DeskPlace_rests_at T  F, T.c_DeskPlace⟩
noncomputable def L_serve_2 : List (Addr × G) := [(Env.Floor, g_Floor_serve)]
theorem ok_M_serve_2 (T : Tx K mg Env.Place Env.Passing Env.DeskPlace Env.Visitor Env.Floor Env.cl_DeskPlace_first Env.tl_DeskPlace_first) : OkmL P w K mg base 1 L_serve_2 "serve" ["self", "number", "until"] := fun p hp => by
  simp only [L_serve_2, List.mem_cons, List.not_mem_nil, or_false] at hp
  rcases hp with rfl
  · exact ⟨okm_of T.m_Floor_serve_2 (by decide) fun F => ok_Floor_serve T  F, T.c_Floor⟩
noncomputable def L_where_1 : List (Addr × G) := [(Env.Floor, g_Floor_where)]
theorem ok_M_where_1 (T : Tx K mg Env.Place Env.Passing Env.DeskPlace Env.Visitor Env.Floor Env.cl_DeskPlace_first Env.tl_DeskPlace_first) : OkmL P w K mg base 1 L_where_1 "where" ["self", "number"] := fun p hp => by
  simp only [L_where_1, List.mem_cons, List.not_mem_nil, or_false] at hp
  rcases hp with rfl
  · exact ⟨okm_of T.m_Floor_where_1 (by decide) fun F => ok_Floor_where T  F, T.c_Floor⟩
abbrev sDeskPlace_served : Stmt := (inClass (top 5) 3)
abbrev NDeskPlace_served : List Str := ["self", "floor", "number"]
theorem scDeskPlace_served : FnScope NDeskPlace_served ["self", "floor"] (defScope sDeskPlace_served) := ⟨rfl, rfl, rfl, by decide +kernel, rfl, by decide +kernel, by decide +kernel⟩
noncomputable def cDeskPlace_served1e : M D :=
    (dD (dVar 2))
noncomputable def cDeskPlace_served1t : M Bool :=
    (dCmpT (gNone true) (okD (dOp gIx (okD (dMethL L_where_1 "where" (dVar 1) (dCons (dD (dVar 2)) dNil))) (dC (.int 2)))) (dC .non))
noncomputable def den_DeskPlace_served : M Fl :=
    (dRet (M.bind (okN (dLcA (dMethL L_at_1 "at" (dVar 1) (dCons (dFldA Cs_called "called" (dVar 0)) dNil)) (dName 2) cDeskPlace_served1t cDeskPlace_served1e [2])) gLen))
theorem raw_DeskPlace_served (T : Tx K mg Env.Place Env.Passing Env.DeskPlace Env.Visitor Env.Floor Env.cl_DeskPlace_first Env.tl_DeskPlace_first) (h_M_at_1 : OkmL P w K mg base 1 L_at_1 "at" ["self", "name"]) (h_M_where_1 : OkmL P w K mg base 1 L_where_1 "where" ["self", "number"]) {f : Addr} {fd : FuncData} (F : Fun K "served" "DeskPlace.served" sDeskPlace_served f fd) : FnOk P w K mg base (L2N.CX P w) 2 f fd ["self", "floor"] (spG K (runD 3 2 den_DeskPlace_served)) := by
  have sc := scDeskPlace_served
  exact fn_ok (N := NDeskPlace_served) F sc rfl (by decide) fun cdv A outer s H E hr => ⟨_, ((bd_one (sd_ret (dd_b1 bLen (by rfl) T.n_len (by decide +kernel) (EN.e (en_lcA (own := [("number", 2)]) (W' := W0) rfl sc.nd (dd_methL h_M_at_1 (hr.mono (by decide)) (ed_var 1) (ad_cons (dd_fldA (fa_called T) (ed_var 0)) ad_nil)) (blkOk_by (N := NDeskPlace_served) (sc := defScope sDeskPlace_served) (by decide +kernel)) (fun _ _ _ _ _ => (gd_name (i := 2) sc.nd rfl (by first | exact Or.inl rfl | exact Or.inr rfl))) (fun _ _ _ _ _ => (tsd_one (td_cmp cIsNot (DD.e (dd_ix (DD.e (dd_methL h_M_where_1 (hr.mono (by decide)) (ed_var 1) (ad_cons (ED.d (ed_var 2)) ad_nil))) ed_int (fun _ _ => rfl))) ed_non (nomark _)))) (fun _ _ _ _ _ => (ED.d (ed_var 2)))))))) : BD _ _ _ _ den_DeskPlace_served)⟩
noncomputable def g_DeskPlace_served : G := runD 3 2 den_DeskPlace_served
theorem eq_DeskPlace_served : ∀ ds S, g_DeskPlace_served ds S ≠ .no → runD 3 2 den_DeskPlace_served ds S = g_DeskPlace_served ds S := fun _ _ _ => rfl
theorem served_ok {L : Lay} {m : Fm} {S : List Cell} (h : FloorAt L m S) {n : Str} (hn : n ∈ m.ns) (hr : RowIn m n) (hz : (m.rows n).length ≤ 1000) {th : Str} {hd bg : Int} {tk rs : D} {rk : Bool} (hp : m.plc n = .ins Env.DeskPlace (KF n th hd tk rk rs bg)) : g_DeskPlace_served [.loc (L.pl n), .loc L.f] S = .ok (.v (.int (servN m n : Nat))) (S ++ [.lst ((m.rows n).map I)]) := by
  have gf := h.gf
  have gsp := h.gsp
  have gro := h.gro
  have gpo := h.gpo
  have grk := h.grk
  have ggs := h.ggs
  have gp := h.gpl hn
  rw [hp] at gp
  have a := at_ok h hn
  have h1 := h.push [.lst ((m.rows n).map I)]
  have gf1 := h1.gf
  have gl : (S ++ [Cell.lst ((m.rows n).map I)])[S.length]? = some (.lst ((m.rows n).map I)) := tl_get S _
  have e := fun r0 => itLG_enc (dg := dName 2) (dt := cDeskPlace_served1t) (de := cDeskPlace_served1e) (vs := [2]) (r0 := r0) (w := [.d (.loc (L.pl n)), .d (.loc L.f), .no]) (S := S ++ [.lst ((m.rows n).map I)]) (enc := I) (p := fun x => !tilW m x) (f := I) gl (m.rows n) [] ⟨[.d (.loc (L.pl n)), .d (.loc L.f), .no], S ++ [.lst ((m.rows n).map I)]⟩ rfl rfl (by simp; omega) (fun x hx => by
    obtain ⟨c, s, u, e1, e2⟩ := where_x h1 (n := n) hr hx
    have e1 : tilW m x = u.isNone := e1
    refine ⟨⟨[.d (.loc (L.pl n)), .d (.loc L.f), .d (.v (.int x))], S ++ [.lst ((m.rows n).map I)]⟩, rfl, ⟨[.d (.loc (L.pl n)), .d (.loc L.f), .d (.v (.int x))], S ++ [.lst ((m.rows n).map I)]⟩, ?_, rfl, rfl, fun _ => ⟨⟨[.d (.loc (L.pl n)), .d (.loc L.f), .d (.v (.int x))], S ++ [.lst ((m.rows n).map I)]⟩, rfl, rfl, rfl⟩⟩
    have q : atI [D.v (V.str c), D.v (V.int s), tilD u] 2 = some (tilD u) := rfl
    have t := fun c => gNone_til true u c
    generalize tilD u = tu at *
    rw [e1]
    generalize (m.rows n).map I = R at *
    simp_arith [cDeskPlace_served1t, dFldA, dSetFA, dMethL, dMeth, insA, insD, dRGet, rdcD, dctD, keyD, dSt, dDAug, rol, spl, izl, gsl, Sdl, vcell, tilD, dFldAug, gf1, lkV1, lkV2, lkV3, lkV4, lkV5, ptV1, ptV2, ptV3, lnV, lkF1, lkF2, lkF3, lkF4, lkF5, lkFa, lkFb, lkFc, lkFd, lkFe, lkFf, lkFg, lkFh, lkFi, lkFj, lkFk, lkFl, lkFm, lkFn, lkFo, lkFp, mC_Place_called, mC_Passing_called, mC_DeskPlace_called, mC_Visitor_called, mC_Passing_then, mC_DeskPlace_then, mC_DeskPlace_hands, mC_DeskPlace_takes, mC_DeskPlace_is_ranked, mC_DeskPlace_rests, mC_DeskPlace_begun, mC_Visitor_since, mC_Visitor_until, mC_Visitor_things, mC_Visitor_grade, mC_Floor_guests, mC_Floor_rows, mC_Floor_spots, mC_Floor_ranks, mC_Floor_pools, lkXF_called, lkXF_then, lkXF_takes, lkXF_hands, lkXF_is_ranked, lkXF_rests, lkXF_begun, lkXF_pool, lkXF_rule, lkXF_goals, lkXF_moved, lkXF_can, lkXF_moves, lkXF_clock, lkXF_change, lkXF_first, lkXF_served, lkXF_rests_at, lkXF_chosen, lkXF_is_open, lnXF, lkDF_called, lkDF_then, lkDF_takes, lkDF_hands, lkDF_is_ranked, lkDF_rests, lkDF_begun, lkDF_pool, lkDF_rule, lkDF_goals, lkDF_moved, lkDF_can, lkDF_moves, lkDF_clock, lkDF_change, lkDF_first, lkDF_served, lkDF_rests_at, lkDF_chosen, lkDF_is_open, lnDF, lkKF_called, lkKF_then, lkKF_takes, lkKF_hands, lkKF_is_ranked, lkKF_rests, lkKF_begun, lkKF_pool, lkKF_rule, lkKF_goals, lkKF_moved, lkKF_can, lkKF_moves, lkKF_clock, lkKF_change, lkKF_first, lkKF_served, lkKF_rests_at, lkKF_chosen, lkKF_is_open, lnKF, L_where_1, List.lookup_cons, beq_self_eq_true, nE_Place_Passing, nE_Place_DeskPlace, nE_Place_Visitor, nE_Place_Floor, nE_Passing_Place, nE_Passing_DeskPlace, nE_Passing_Visitor, nE_Passing_Floor, nE_DeskPlace_Place, nE_DeskPlace_Passing, nE_DeskPlace_Visitor, nE_DeskPlace_Floor, nE_Visitor_Place, nE_Visitor_Passing, nE_Visitor_DeskPlace, nE_Visitor_Floor, nE_Floor_Place, nE_Floor_Passing, nE_Floor_DeskPlace, nE_Floor_Visitor, e2, q, t, -gNone])
  have ef : ((m.rows n).filter fun x => !tilW m x).length = servN m n := rfl
  have el : (((((m.rows n).filter fun x => !tilW m x).map I).length : Nat) : Int) = (servN m n : Nat) := by rw [List.length_map, ef]
  generalize ((m.rows n).filter fun x => !tilW m x).map I = Fl at *
  generalize (m.rows n).map I = R at *
  simp only [List.nil_append] at e
  simp_arith [g_DeskPlace_served, den_DeskPlace_served, dLcA, dLcX, dFldA, dSetFA, dMethL, dMeth, insA, insD, dRGet, rdcD, dctD, keyD, dSt, dDAug, rol, spl, izl, gsl, Sdl, vcell, tilD, dFldAug, gf, gsp, gro, gpo, grk, ggs, lkV1, lkV2, lkV3, lkV4, lkV5, ptV1, ptV2, ptV3, lnV, lkF1, lkF2, lkF3, lkF4, lkF5, lkFa, lkFb, lkFc, lkFd, lkFe, lkFf, lkFg, lkFh, lkFi, lkFj, lkFk, lkFl, lkFm, lkFn, lkFo, lkFp, mC_Place_called, mC_Passing_called, mC_DeskPlace_called, mC_Visitor_called, mC_Passing_then, mC_DeskPlace_then, mC_DeskPlace_hands, mC_DeskPlace_takes, mC_DeskPlace_is_ranked, mC_DeskPlace_rests, mC_DeskPlace_begun, mC_Visitor_since, mC_Visitor_until, mC_Visitor_things, mC_Visitor_grade, mC_Floor_guests, mC_Floor_rows, mC_Floor_spots, mC_Floor_ranks, mC_Floor_pools, lkXF_called, lkXF_then, lkXF_takes, lkXF_hands, lkXF_is_ranked, lkXF_rests, lkXF_begun, lkXF_pool, lkXF_rule, lkXF_goals, lkXF_moved, lkXF_can, lkXF_moves, lkXF_clock, lkXF_change, lkXF_first, lkXF_served, lkXF_rests_at, lkXF_chosen, lkXF_is_open, lnXF, lkDF_called, lkDF_then, lkDF_takes, lkDF_hands, lkDF_is_ranked, lkDF_rests, lkDF_begun, lkDF_pool, lkDF_rule, lkDF_goals, lkDF_moved, lkDF_can, lkDF_moves, lkDF_clock, lkDF_change, lkDF_first, lkDF_served, lkDF_rests_at, lkDF_chosen, lkDF_is_open, lnDF, lkKF_called, lkKF_then, lkKF_takes, lkKF_hands, lkKF_is_ranked, lkKF_rests, lkKF_begun, lkKF_pool, lkKF_rule, lkKF_goals, lkKF_moved, lkKF_can, lkKF_moves, lkKF_clock, lkKF_change, lkKF_first, lkKF_served, lkKF_rests_at, lkKF_chosen, lkKF_is_open, lnKF, L_at_1, List.lookup_cons, beq_self_eq_true, nE_Place_Passing, nE_Place_DeskPlace, nE_Place_Visitor, nE_Place_Floor, nE_Passing_Place, nE_Passing_DeskPlace, nE_Passing_Visitor, nE_Passing_Floor, nE_DeskPlace_Place, nE_DeskPlace_Passing, nE_DeskPlace_Visitor, nE_DeskPlace_Floor, nE_Visitor_Place, nE_Visitor_Passing, nE_Visitor_DeskPlace, nE_Visitor_Floor, nE_Floor_Place, nE_Floor_Passing, nE_Floor_DeskPlace, nE_Floor_Visitor, gp, a, gl, e, el, -itL]
theorem ok_DeskPlace_served (T : Tx K mg Env.Place Env.Passing Env.DeskPlace Env.Visitor Env.Floor Env.cl_DeskPlace_first Env.tl_DeskPlace_first) (h_M_at_1 : OkmL P w K mg base 1 L_at_1 "at" ["self", "name"]) (h_M_where_1 : OkmL P w K mg base 1 L_where_1 "where" ["self", "number"]) {f : Addr} {fd : FuncData} (F : Fun K "served" "DeskPlace.served" sDeskPlace_served f fd) : FnOk P w K mg base (L2N.CX P w) 2 f fd ["self", "floor"] (spG K g_DeskPlace_served) := FnOk.by (raw_DeskPlace_served T h_M_at_1 h_M_where_1 F) eq_DeskPlace_served
abbrev sFloor_change : Stmt := (inClass (top 14) 16)
abbrev NFloor_change : List Str := ["self", "change"]
theorem scFloor_change : FnScope NFloor_change ["self", "change"] (defScope sFloor_change) := ⟨rfl, rfl, rfl, by decide +kernel, rfl, by decide +kernel, by decide +kernel⟩
noncomputable def den_Floor_change : M Fl :=
    (dIfS (dCmpT (gEq false) (okD (dOp gIx (dVar 1) (dC (.int 0)))) (dC (.str "holds"))) (dDAug (fun i j => i + j) (okD (dFldA Cs_pools "pools" (dVar 0))) (dOp gIx (dVar 1) (dC (.int 1))) (dOp gIx (dVar 1) (dC (.int 2)))) (dDrop (okD (dMethL L_change_1_P "change" (okD (dRGet (okD (dFldA Cs_spots "spots" (dVar 0))) (dOp gIx (dVar 1) (dC (.int 1))))) (dCons (dD (dVar 1)) dNil)))))
theorem raw_Floor_change (T : Tx K mg Env.Place Env.Passing Env.DeskPlace Env.Visitor Env.Floor Env.cl_DeskPlace_first Env.tl_DeskPlace_first) (h_M_change_1_P : OkmL P w K mg base 1 L_change_1_P "change" ["self", "change"]) {f : Addr} {fd : FuncData} (F : Fun K "change" "Floor.change" sFloor_change f fd) : FnOk P w K mg base (L2N.CX P w) 2 f fd ["self", "change"] (spG K (runD 2 2 den_Floor_change)) := by
  have sc := scFloor_change
  exact fn_ok (N := NFloor_change) F sc rfl (by decide) fun cdv A outer s H E hr => ⟨_, ((bd_one (sd_if (td_cmp (cEq hr.units) (DD.e (dd_ix (ed_var 1) ed_int (fun _ _ => rfl))) ed_str (nomark _)) (bd_one (sd_daug io_add (u1 hr) (DD.e (dd_fldA (fa_pools T) (ed_var 0))) (dd_ix (ed_var 1) ed_int (fun _ _ => rfl)) (dd_ix (ed_var 1) ed_int (fun _ _ => rfl)))) (bd_one (sd_expr (DD.e (dd_methL h_M_change_1_P (hr.mono (by decide)) (DD.e (dd_rget (u1 hr) (DD.e (dd_fldA (fa_spots T) (ed_var 0))) (dd_ix (ed_var 1) ed_int (fun _ _ => rfl)))) (ad_cons (ED.d (ed_var 1)) ad_nil))))))) : BD _ _ _ _ den_Floor_change)⟩
noncomputable def g_Floor_change : G := runD 2 2 den_Floor_change
theorem eq_Floor_change : ∀ ds S, g_Floor_change ds S ≠ .no → runD 2 2 den_Floor_change ds S = g_Floor_change ds S := fun _ _ _ => rfl
theorem fchg_hands {L : Lay} {m : Fm} {S : List Cell} (h : FloorAt L m S) {n : Str} (hn : n ∈ m.ns) {hd c : Int} {ts : List Int} {kk : Bool} {rs : List (Int × Int)} {t : Str} (hp : m.plc n = plcS (.desk n hd ts kk rs t) c) (z : Int) : ∃ S', g_Floor_change [.loc L.f, .tup [.v (.str (Str.ofString "hands")), .v (.str n), .v (.int z)]] S = .ok (.v .non) S' ∧ FloorAt L (m.setPl n (plcS (.desk n z ts kk rs t) c)) S' := by
  obtain ⟨S', e, h'⟩ := dchg_hands h hn hp z
  refine ⟨S', ?_, h'⟩
  have gf := h.gf
  have gsp := h.gsp
  have gro := h.gro
  have gpo := h.gpo
  have grk := h.grk
  have ggs := h.ggs
  have gp := h.gpl hn
  rw [hp] at gp
  unfold plcS at gp
  have v1 := sp_at (L := L) hn
  have q0 : ∀ a b u : D, atI [a, b, u] 0 = some a := fun _ _ _ => rfl
  have q1 : ∀ a b u : D, atI [a, b, u] 1 = some b := fun _ _ _ => rfl
  have ne : (Str.ofString "hands" = Str.ofString "holds") = False := eq_false (by decide +kernel)
  simp_arith [g_Floor_change, den_Floor_change, dFldA, dSetFA, dMethL, dMeth, insA, insD, dRGet, rdcD, dctD, keyD, dSt, dDAug, rol, spl, izl, gsl, Sdl, vcell, tilD, dFldAug, gf, gsp, gro, gpo, grk, ggs, lkV1, lkV2, lkV3, lkV4, lkV5, ptV1, ptV2, ptV3, lnV, lkF1, lkF2, lkF3, lkF4, lkF5, lkFa, lkFb, lkFc, lkFd, lkFe, lkFf, lkFg, lkFh, lkFi, lkFj, lkFk, lkFl, lkFm, lkFn, lkFo, lkFp, mC_Place_called, mC_Passing_called, mC_DeskPlace_called, mC_Visitor_called, mC_Passing_then, mC_DeskPlace_then, mC_DeskPlace_hands, mC_DeskPlace_takes, mC_DeskPlace_is_ranked, mC_DeskPlace_rests, mC_DeskPlace_begun, mC_Visitor_since, mC_Visitor_until, mC_Visitor_things, mC_Visitor_grade, mC_Floor_guests, mC_Floor_rows, mC_Floor_spots, mC_Floor_ranks, mC_Floor_pools, lkXF_called, lkXF_then, lkXF_takes, lkXF_hands, lkXF_is_ranked, lkXF_rests, lkXF_begun, lkXF_pool, lkXF_rule, lkXF_goals, lkXF_moved, lkXF_can, lkXF_moves, lkXF_clock, lkXF_change, lkXF_first, lkXF_served, lkXF_rests_at, lkXF_chosen, lkXF_is_open, lnXF, lkDF_called, lkDF_then, lkDF_takes, lkDF_hands, lkDF_is_ranked, lkDF_rests, lkDF_begun, lkDF_pool, lkDF_rule, lkDF_goals, lkDF_moved, lkDF_can, lkDF_moves, lkDF_clock, lkDF_change, lkDF_first, lkDF_served, lkDF_rests_at, lkDF_chosen, lkDF_is_open, lnDF, lkKF_called, lkKF_then, lkKF_takes, lkKF_hands, lkKF_is_ranked, lkKF_rests, lkKF_begun, lkKF_pool, lkKF_rule, lkKF_goals, lkKF_moved, lkKF_can, lkKF_moves, lkKF_clock, lkKF_change, lkKF_first, lkKF_served, lkKF_rests_at, lkKF_chosen, lkKF_is_open, lnKF, L_change_1_P, List.lookup_cons, beq_self_eq_true, nE_Place_Passing, nE_Place_DeskPlace, nE_Place_Visitor, nE_Place_Floor, nE_Passing_Place, nE_Passing_DeskPlace, nE_Passing_Visitor, nE_Passing_Floor, nE_DeskPlace_Place, nE_DeskPlace_Passing, nE_DeskPlace_Visitor, nE_DeskPlace_Floor, nE_Visitor_Place, nE_Visitor_Passing, nE_Visitor_DeskPlace, nE_Visitor_Floor, nE_Floor_Place, nE_Floor_Passing, nE_Floor_DeskPlace, nE_Floor_Visitor, gp, v1, q0, q1, ne, e]
theorem fchg_takes {L : Lay} {m : Fm} {S : List Cell} (h : FloorAt L m S) {n : Str} (hn : n ∈ m.ns) {hd c : Int} {ts : List Int} {kk : Bool} {rs : List (Int × Int)} {t : Str} (hp : m.plc n = plcS (.desk n hd ts kk rs t) c) (us : List Int) : ∃ S', g_Floor_change [.loc L.f, .tup [.v (.str (Str.ofString "takes")), .v (.str n), .tup (us.map I)]] S = .ok (.v .non) S' ∧ FloorAt L (m.setPl n (plcS (.desk n hd us kk rs t) c)) S' := by
  obtain ⟨S', e, h'⟩ := dchg_takes h hn hp (.tup (us.map I))
  refine ⟨S', ?_, h'⟩
  have gf := h.gf
  have gsp := h.gsp
  have gro := h.gro
  have gpo := h.gpo
  have grk := h.grk
  have ggs := h.ggs
  have gp := h.gpl hn
  rw [hp] at gp
  unfold plcS at gp
  have v1 := sp_at (L := L) hn
  have q0 : ∀ a b u : D, atI [a, b, u] 0 = some a := fun _ _ _ => rfl
  have q1 : ∀ a b u : D, atI [a, b, u] 1 = some b := fun _ _ _ => rfl
  have ne : (Str.ofString "takes" = Str.ofString "holds") = False := eq_false (by decide +kernel)
  generalize us.map I = UI at *
  simp_arith [g_Floor_change, den_Floor_change, dFldA, dSetFA, dMethL, dMeth, insA, insD, dRGet, rdcD, dctD, keyD, dSt, dDAug, rol, spl, izl, gsl, Sdl, vcell, tilD, dFldAug, gf, gsp, gro, gpo, grk, ggs, lkV1, lkV2, lkV3, lkV4, lkV5, ptV1, ptV2, ptV3, lnV, lkF1, lkF2, lkF3, lkF4, lkF5, lkFa, lkFb, lkFc, lkFd, lkFe, lkFf, lkFg, lkFh, lkFi, lkFj, lkFk, lkFl, lkFm, lkFn, lkFo, lkFp, mC_Place_called, mC_Passing_called, mC_DeskPlace_called, mC_Visitor_called, mC_Passing_then, mC_DeskPlace_then, mC_DeskPlace_hands, mC_DeskPlace_takes, mC_DeskPlace_is_ranked, mC_DeskPlace_rests, mC_DeskPlace_begun, mC_Visitor_since, mC_Visitor_until, mC_Visitor_things, mC_Visitor_grade, mC_Floor_guests, mC_Floor_rows, mC_Floor_spots, mC_Floor_ranks, mC_Floor_pools, lkXF_called, lkXF_then, lkXF_takes, lkXF_hands, lkXF_is_ranked, lkXF_rests, lkXF_begun, lkXF_pool, lkXF_rule, lkXF_goals, lkXF_moved, lkXF_can, lkXF_moves, lkXF_clock, lkXF_change, lkXF_first, lkXF_served, lkXF_rests_at, lkXF_chosen, lkXF_is_open, lnXF, lkDF_called, lkDF_then, lkDF_takes, lkDF_hands, lkDF_is_ranked, lkDF_rests, lkDF_begun, lkDF_pool, lkDF_rule, lkDF_goals, lkDF_moved, lkDF_can, lkDF_moves, lkDF_clock, lkDF_change, lkDF_first, lkDF_served, lkDF_rests_at, lkDF_chosen, lkDF_is_open, lnDF, lkKF_called, lkKF_then, lkKF_takes, lkKF_hands, lkKF_is_ranked, lkKF_rests, lkKF_begun, lkKF_pool, lkKF_rule, lkKF_goals, lkKF_moved, lkKF_can, lkKF_moves, lkKF_clock, lkKF_change, lkKF_first, lkKF_served, lkKF_rests_at, lkKF_chosen, lkKF_is_open, lnKF, L_change_1_P, List.lookup_cons, beq_self_eq_true, nE_Place_Passing, nE_Place_DeskPlace, nE_Place_Visitor, nE_Place_Floor, nE_Passing_Place, nE_Passing_DeskPlace, nE_Passing_Visitor, nE_Passing_Floor, nE_DeskPlace_Place, nE_DeskPlace_Passing, nE_DeskPlace_Visitor, nE_DeskPlace_Floor, nE_Visitor_Place, nE_Visitor_Passing, nE_Visitor_DeskPlace, nE_Visitor_Floor, nE_Floor_Place, nE_Floor_Passing, nE_Floor_DeskPlace, nE_Floor_Visitor, gp, v1, q0, q1, ne, e]
theorem ok_Floor_change (T : Tx K mg Env.Place Env.Passing Env.DeskPlace Env.Visitor Env.Floor Env.cl_DeskPlace_first Env.tl_DeskPlace_first) (h_M_change_1_P : OkmL P w K mg base 1 L_change_1_P "change" ["self", "change"]) {f : Addr} {fd : FuncData} (F : Fun K "change" "Floor.change" sFloor_change f fd) : FnOk P w K mg base (L2N.CX P w) 2 f fd ["self", "change"] (spG K g_Floor_change) := FnOk.by (raw_Floor_change T h_M_change_1_P F) eq_Floor_change
abbrev sPassing___init__ : Stmt := (inClass (top 3) 0)
abbrev NPassing___init__ : List Str := ["self", "told"]
theorem scPassing___init__ : FnScope NPassing___init__ ["self", "told"] (defScope sPassing___init__) := ⟨rfl, rfl, rfl, by decide +kernel, rfl, by decide +kernel, by decide +kernel⟩
noncomputable def den_Passing___init__ : M Fl :=
    (dSeq (dDrop (okD (dBase g_Place___init__ (dCons (dD (dVar 0)) (dCons (dD (dVar 1)) dNil)))))
    (dSetFA Cs_then "then" (dOp gIx (dVar 1) (okD (dNeg (dC (.int 1))))) (dVar 0)))
theorem raw_Passing___init__ (T : Tx K mg Env.Place Env.Passing Env.DeskPlace Env.Visitor Env.Floor Env.cl_DeskPlace_first Env.tl_DeskPlace_first) (h_B_Place___init__ : Okb P w K mg base 1 "Place" "__init__" ["self", "told"] g_Place___init__) {f : Addr} {fd : FuncData} (F : Fun K "__init__" "Passing.__init__" sPassing___init__ f fd) : FnOk P w K mg base (L2N.CX P w) 2 f fd ["self", "told"] (spG K (runD 2 2 den_Passing___init__)) := by
  have sc := scPassing___init__
  exact fn_ok (N := NPassing___init__) F sc rfl (by decide) fun cdv A outer s H E hr => ⟨_, ((bd_cons (sd_expr (DD.e (dd_base h_B_Place___init__ (hr.mono (by decide)) (by rfl) (ad_cons (ED.d (ed_var 0)) (ad_cons (ED.d (ed_var 1)) ad_nil)))))
    (bd_one (sd_fldA (fa_then T) (ed_var 0) (dd_ix (ed_var 1) (DD.e (dd_neg ed_int)) (fun _ _ => rfl))))) : BD _ _ _ _ den_Passing___init__)⟩
noncomputable def g_Passing___init__ : G := runD 2 2 den_Passing___init__
theorem eq_Passing___init__ : ∀ ds S, g_Passing___init__ ds S ≠ .no → runD 2 2 den_Passing___init__ ds S = g_Passing___init__ ds S := fun _ _ _ => rfl
theorem qinit (S : List Cell) (C : Addr) (hC : C ∈ Cs_called) (hC2 : C ∈ Cs_then) (ds : List D) (n m : Str) (h1 : atI ds 1 = some (.v (.str n))) (h2 : atI ds (-1) = some (.v (.str m))) : g_Passing___init__ [.loc S.length, .tup ds] (S ++ [.ins C []]) = .ok (.v .non) (S ++ [.ins C (DF n m)]) := by
  have t1 := tl_get S
  have t2 := tl_set S
  have b := pinit S C hC ds n h1
  have p1 : putFD "then" (.v (.str m)) (XF n) = DF n m := rfl
  have l1 : (XF n).length = 1 := rfl
  simp_arith [g_Passing___init__, den_Passing___init__, dBase, dFldA, dSetFA, dMethL, dMeth, insA, insD, dRGet, rdcD, dctD, keyD, dSt, dDAug, rol, spl, izl, gsl, Sdl, vcell, tilD, dFldAug, h2, t1, t2, hC2, p1, b, l1]
theorem ok_Passing___init__ (T : Tx K mg Env.Place Env.Passing Env.DeskPlace Env.Visitor Env.Floor Env.cl_DeskPlace_first Env.tl_DeskPlace_first) (h_B_Place___init__ : Okb P w K mg base 1 "Place" "__init__" ["self", "told"] g_Place___init__) {f : Addr} {fd : FuncData} (F : Fun K "__init__" "Passing.__init__" sPassing___init__ f fd) : FnOk P w K mg base (L2N.CX P w) 2 f fd ["self", "told"] (spG K g_Passing___init__) := FnOk.by (raw_Passing___init__ T h_B_Place___init__ F) eq_Passing___init__
abbrev sPassing_moves : Stmt := (inClass (top 3) 2)
abbrev NPassing_moves : List Str := ["self", "floor", "number", "turn"]
theorem scPassing_moves : FnScope NPassing_moves ["self", "floor", "number", "turn"] (defScope sPassing_moves) := ⟨rfl, rfl, rfl, by decide +kernel, rfl, by decide +kernel, by decide +kernel⟩
noncomputable def den_Passing_moves : M Fl :=
    (dSeq (dDrop (okD (dMethL L_enter_3 "enter" (dVar 1) (dCons (dD (dVar 2)) (dCons (dFldA Cs_then "then" (dVar 0)) (dCons (dD (dVar 3)) dNil))))))
    (dRet (dTup (dCons (dD (dC (.str "enters"))) (dCons (dFldA Cs_then "then" (dVar 0)) dNil)))))
theorem raw_Passing_moves (T : Tx K mg Env.Place Env.Passing Env.DeskPlace Env.Visitor Env.Floor Env.cl_DeskPlace_first Env.tl_DeskPlace_first) (h_M_enter_3 : OkmL P w K mg base 1 L_enter_3 "enter" ["self", "number", "name", "turn"]) {f : Addr} {fd : FuncData} (F : Fun K "moves" "Passing.moves" sPassing_moves f fd) : FnOk P w K mg base (L2N.CX P w) 2 f fd ["self", "floor", "number", "turn"] (spG K (runD 4 4 den_Passing_moves)) := by
  have sc := scPassing_moves
  exact fn_ok (N := NPassing_moves) F sc rfl (by decide) fun cdv A outer s H E hr => ⟨_, ((bd_cons (sd_expr (DD.e (dd_methL h_M_enter_3 (hr.mono (by decide)) (ed_var 1) (ad_cons (ED.d (ed_var 2)) (ad_cons (dd_fldA (fa_then T) (ed_var 0)) (ad_cons (ED.d (ed_var 3)) ad_nil))))))
    (bd_one (sd_ret (dd_tup (ad_cons (ED.d ed_str) (ad_cons (dd_fldA (fa_then T) (ed_var 0)) ad_nil)))))) : BD _ _ _ _ den_Passing_moves)⟩
noncomputable def g_Passing_moves : G := runD 4 4 den_Passing_moves
theorem eq_Passing_moves : ∀ ds S, g_Passing_moves ds S ≠ .no → runD 4 4 den_Passing_moves ds S = g_Passing_moves ds S := fun _ _ _ => rfl
theorem pmoves_ok {L : Lay} {m : Fm} {S : List Cell} (h : FloorAt L m S) {k : Nat} {v : Vz} (hk : m.vis[k]? = some v) (hn : v.called ∈ m.ns) {C : Addr} {fs : List (Str × D)} {th : Str} (hc : m.plc v.called = .ins C fs) (hC : C ∈ Cs_then) (hl : fs.lookup ("then" : Str) = some (.v (.str th))) (hn2 : th ∈ m.ns) (hm : ((k : Nat) : Int) ∈ m.rows v.called) (hz : (m.rows v.called).length < 1000) (hz2 : (m.rows th).length < 1000) (z : Int) : ∃ S', g_Passing_moves [.loc (L.pl v.called), .loc L.f, .v (.int (k : Nat)), .v (.int z)] S = .ok (.tup [.v (.str "enters"), .v (.str th)]) S' ∧ FloorAt L (m.enter k v th z) S' := by
  obtain ⟨S', e, h'⟩ := enter_ok h hk hn hn2 hm hz hz2 z
  refine ⟨S', ?_, h'⟩
  have gf := h.gf
  have gsp := h.gsp
  have gro := h.gro
  have gpo := h.gpo
  have grk := h.grk
  have ggs := h.ggs
  have gp := h.gpl hn
  have gp' := h'.gpl (n := v.called) hn
  have e1 : (m.enter k v th z).plc v.called = m.plc v.called := rfl
  rw [e1] at gp'
  rw [hc] at gp gp'
  simp_arith [g_Passing_moves, den_Passing_moves, dFldA, dSetFA, dMethL, dMeth, insA, insD, dRGet, rdcD, dctD, keyD, dSt, dDAug, rol, spl, izl, gsl, Sdl, vcell, tilD, dFldAug, gf, gsp, gro, gpo, grk, ggs, lkV1, lkV2, lkV3, lkV4, lkV5, ptV1, ptV2, ptV3, lnV, lkF1, lkF2, lkF3, lkF4, lkF5, lkFa, lkFb, lkFc, lkFd, lkFe, lkFf, lkFg, lkFh, lkFi, lkFj, lkFk, lkFl, lkFm, lkFn, lkFo, lkFp, mC_Place_called, mC_Passing_called, mC_DeskPlace_called, mC_Visitor_called, mC_Passing_then, mC_DeskPlace_then, mC_DeskPlace_hands, mC_DeskPlace_takes, mC_DeskPlace_is_ranked, mC_DeskPlace_rests, mC_DeskPlace_begun, mC_Visitor_since, mC_Visitor_until, mC_Visitor_things, mC_Visitor_grade, mC_Floor_guests, mC_Floor_rows, mC_Floor_spots, mC_Floor_ranks, mC_Floor_pools, lkXF_called, lkXF_then, lkXF_takes, lkXF_hands, lkXF_is_ranked, lkXF_rests, lkXF_begun, lkXF_pool, lkXF_rule, lkXF_goals, lkXF_moved, lkXF_can, lkXF_moves, lkXF_clock, lkXF_change, lkXF_first, lkXF_served, lkXF_rests_at, lkXF_chosen, lkXF_is_open, lnXF, lkDF_called, lkDF_then, lkDF_takes, lkDF_hands, lkDF_is_ranked, lkDF_rests, lkDF_begun, lkDF_pool, lkDF_rule, lkDF_goals, lkDF_moved, lkDF_can, lkDF_moves, lkDF_clock, lkDF_change, lkDF_first, lkDF_served, lkDF_rests_at, lkDF_chosen, lkDF_is_open, lnDF, lkKF_called, lkKF_then, lkKF_takes, lkKF_hands, lkKF_is_ranked, lkKF_rests, lkKF_begun, lkKF_pool, lkKF_rule, lkKF_goals, lkKF_moved, lkKF_can, lkKF_moves, lkKF_clock, lkKF_change, lkKF_first, lkKF_served, lkKF_rests_at, lkKF_chosen, lkKF_is_open, lnKF, L_enter_3, List.lookup_cons, beq_self_eq_true, nE_Place_Passing, nE_Place_DeskPlace, nE_Place_Visitor, nE_Place_Floor, nE_Passing_Place, nE_Passing_DeskPlace, nE_Passing_Visitor, nE_Passing_Floor, nE_DeskPlace_Place, nE_DeskPlace_Passing, nE_DeskPlace_Visitor, nE_DeskPlace_Floor, nE_Visitor_Place, nE_Visitor_Passing, nE_Visitor_DeskPlace, nE_Visitor_Floor, nE_Floor_Place, nE_Floor_Passing, nE_Floor_DeskPlace, nE_Floor_Visitor, gp, gp', hC, hl, e]
theorem ok_Passing_moves (T : Tx K mg Env.Place Env.Passing Env.DeskPlace Env.Visitor Env.Floor Env.cl_DeskPlace_first Env.tl_DeskPlace_first) (h_M_enter_3 : OkmL P w K mg base 1 L_enter_3 "enter" ["self", "number", "name", "turn"]) {f : Addr} {fd : FuncData} (F : Fun K "moves" "Passing.moves" sPassing_moves f fd) : FnOk P w K mg base (L2N.CX P w) 2 f fd ["self", "floor", "number", "turn"] (spG K g_Passing_moves) := FnOk.by (raw_Passing_moves T h_M_enter_3 F) eq_Passing_moves
abbrev slaw_can : Stmt := (top 22)
abbrev Nlaw_can : List Str := ["_law_own", "_law_number", "_law_turn", "_law_until", "_law_waiting", "_law_one", "_law_pair"]
theorem sclaw_can : FnScope Nlaw_can ["_law_own", "_law_number", "_law_turn"] (defScope slaw_can) := ⟨rfl, rfl, rfl, by decide +kernel, rfl, by decide +kernel, by decide +kernel⟩
noncomputable def claw_can1e : M D :=
    (dCall g_law_ahead (dCons (dD (dVar 0)) (dCons (dD (dVar 5)) (dCons (dD (dVar 1)) dNil))))
noncomputable def claw_can1t : M Bool :=
    (dCmpT (gEq true) (dVar 5) (dVar 1))
noncomputable def claw_can2e : M D :=
    (dD (dVar 6))
noncomputable def claw_can2t : M Bool :=
    (M.bind (dChain (gI iLe) (gI iLt) (okD (dOp gIx (dVar 6) (dC (.int 0)))) (dVar 2) (okD (dOp gIx (dVar 6) (dC (.int 1))))) gBool)
noncomputable def claw_can3e : M D :=
    (dD (dVar 5))
noncomputable def claw_can3t : M Bool :=
    (dCmpT (gNone false) (okD (dOp gIx (okD (dRGet (dVar 0) (dD (dC (.str "until"))))) (dVar 5))) (dC .non))
noncomputable def den_law_can : M Fl :=
    (dSeq (dSet 3 (dOp gIx (okD (dRGet (dVar 0) (dD (dC (.str "until"))))) (dVar 1)))
    (dSeq (dIfS (dCmpT (gNone true) (dVar 3) (dC .non)) (dRet (dOp (gI iGe) (dVar 2) (dVar 3))) dNx)
    (dSeq (dSetN 4 (dLcA (dRGet (dVar 0) (dD (dC (.str "row")))) (dName 5) claw_can3t claw_can3e [5]))
    (dSeq (dIfS (dCmpT (gI iGe) (okD (dOp gSubI (okD (M.bind (okD (dRGet (dVar 0) (dD (dC (.str "row"))))) gLen)) (okD (M.bind (dVar 4) gLen)))) (okD (dOp gIx (okD (dRGet (dVar 0) (dD (dC (.str "desk"))))) (dC (.int 2))))) (dRet (dD (dC (.bl false)))) dNx)
    (dSeq (dIfS (dCmpT (gEq true) (okN (dLcA (dOp gIx (okD (dRGet (dVar 0) (dD (dC (.str "desk"))))) (dC (.int 5))) (dName 6) claw_can2t claw_can2e [6])) (okN (dLst dNil))) (dRet (dD (dC (.bl false)))) dNx)
    (dRet (dD (dNotV (okD (M.bind (okN (dLcA (dD (dVar 4)) (dName 5) claw_can1t claw_can1e [5])) gAny))))))))))
theorem raw_law_can (T : Tx K mg Env.Place Env.Passing Env.DeskPlace Env.Visitor Env.Floor Env.cl_DeskPlace_first Env.tl_DeskPlace_first) (h_F__law_ahead : Okf P w K mg base 1 "_law_ahead" ["_law_own", "_law_one", "_law_number"] g_law_ahead) : Okf P w K mg base 2 "_law_can" ["_law_own", "_law_number", "_law_turn"] (runD 7 3 den_law_can) := by
  have sc := sclaw_can
  exact ok_has (N := Nlaw_can) T.d_law_can sc rfl (by decide) fun f cdv A outer s H E hr => ⟨_, ((bd_cons (sd_set (i := 3) sc.nd rfl (by first | exact Or.inl rfl | exact Or.inr rfl) (dd_ix (DD.e (dd_rget (u1 hr) (ed_var 0) (ED.d ed_str))) (ed_var 1) (fun _ _ => rfl)))
    (bd_cons (sd_if (td_cmp cIsNot (ed_var 3) ed_non (nomark _)) (bd_one (sd_ret (dd_cmp cGe (ed_var 2) (ed_var 3) (nomark _)))) bd_nil)
    (bd_cons (sd_setLcA (i := 4) (own := [("_law_one", 5)]) (W' := W0) rfl sc.nd rfl rfl (sw_true rfl rfl rfl (by decide +kernel)) (dd_rget (u1 hr) (ed_var 0) (ED.d ed_str)) (blkOk_by (N := Nlaw_can) (sc := defScope slaw_can) (by decide +kernel)) (fun _ _ _ _ _ => (gd_name (i := 5) sc.nd rfl (by first | exact Or.inl rfl | exact Or.inr rfl))) (fun _ _ _ _ _ => (tsd_one (td_cmp cIs (DD.e (dd_ix (DD.e (dd_rget (u1 hr) (ed_var 0) (ED.d ed_str))) (ed_var 5) (fun _ _ => rfl))) ed_non (nomark _)))) (fun _ _ _ _ _ => (ED.d (ed_var 5))))
    (bd_cons (sd_if (td_cmp cGe (DD.e (dd_sub (DD.e (dd_b1 bLen (by rfl) T.n_len (by decide +kernel) (DD.e (dd_rget (u1 hr) (ed_var 0) (ED.d ed_str))))) (DD.e (dd_b1 bLen (by rfl) T.n_len (by decide +kernel) (ed_var 4))))) (DD.e (dd_ix (DD.e (dd_rget (u1 hr) (ed_var 0) (ED.d ed_str))) ed_int (fun _ _ => rfl))) (nomark _)) (bd_one (sd_ret (ED.d ed_bl))) bd_nil)
    (bd_cons (sd_if (td_cmp (cNe hr.units) (EN.e (en_lcA (own := [("_law_pair", 6)]) (W' := W0) rfl sc.nd (dd_ix (DD.e (dd_rget (u1 hr) (ed_var 0) (ED.d ed_str))) ed_int (fun _ _ => rfl)) (blkOk_by (N := Nlaw_can) (sc := defScope slaw_can) (by decide +kernel)) (fun _ _ _ _ _ => (gd_name (i := 6) sc.nd rfl (by first | exact Or.inl rfl | exact Or.inr rfl))) (fun _ _ _ _ _ => (tsd_one (td_chain cLe cLt (DD.e (dd_ix (ed_var 6) ed_int (fun _ _ => rfl))) (ed_var 2) (DD.e (dd_ix (ed_var 6) ed_int (fun _ _ => rfl)))))) (fun _ _ _ _ _ => (ED.d (ed_var 6))))) (EN.e (en_lst ad_nil)) (nomark _)) (bd_one (sd_ret (ED.d ed_bl))) bd_nil)
    (bd_one (sd_ret (ED.d (ed_not (DD.e (dd_b1 (bAny rfl) (by rfl) T.n_any (by decide +kernel) (EN.e (en_lcA (own := [("_law_one", 5)]) (W' := W0) rfl sc.nd (ED.d (ed_var 4)) (blkOk_by (N := Nlaw_can) (sc := defScope slaw_can) (by decide +kernel)) (fun _ _ _ _ _ => (gd_name (i := 5) sc.nd rfl (by first | exact Or.inl rfl | exact Or.inr rfl))) (fun _ _ _ _ _ => (tsd_one (td_cmp (cNe hr.units) (ed_var 5) (ed_var 1) (nomark _)))) (fun _ _ _ _ _ => (dd_fn h_F__law_ahead (hr.mono (by decide)) (by rfl) pol0 (ad_cons (ED.d (ed_var 0)) (ad_cons (ED.d (ed_var 5)) (ad_cons (ED.d (ed_var 1)) ad_nil)))))))))))))))))) : BD _ _ _ _ den_law_can)⟩
noncomputable def g_law_can : G := runD 7 3 den_law_can
theorem eq_law_can : ∀ ds S, g_law_can ds S ≠ .no → runD 7 3 den_law_can ds S = g_law_can ds S := fun _ _ _ => rfl
def lcanB (kk : Bool) (hd : Int) (rs : List (Int × Int)) (row : List Int) (g : Int → Int) (u : Int → Option Int) (x z : Int) : Bool := match u x with
  | some t => decide (t ≤ z)
  | none => if hd ≤ ((row.length : Nat) : Int) - ((row.filter fun y => (u y).isNone).length : Nat) then false else if restB rs z then false
    else !(((row.filter fun y => (u y).isNone).filter fun y => !decide (y = x)).any fun y => ahB kk g row y x)
theorem rest_filter (rs : List (Int × Int)) (z : Int) : (rs.filter fun p => decide (p.1 ≤ z) && decide (z < p.2)).isEmpty = !restB rs z := by
  unfold restB
  induction rs with
  | nil => rfl
  | cons p rs ih =>
    rw [List.filter_cons, List.any_cons]
    cases decide (p.1 ≤ z) && decide (z < p.2) with
    | true => rfl
    | false => rw [if_neg (by decide), Bool.false_or]; exact ih
theorem pyd_pD (l : List (Int × Int)) : PydA 9 (l.map pD) := pydA_map (fun p => pyd_tup (pydA_cons pyd_int (pydA_cons pyd_int pydA_nil))) l
theorem lcan_ok {t : Kt} {hd : Int} {ts : List Int} {c : Int} {row : List Int} {RK SL UL : List D} {S : List Cell} (h : OwnAt t hd ts c row RK SL UL S) {g sn : Int → Int} {u : Int → Option Int} (h3 : Own3 row RK SL UL g sn u) (hz : row.length ≤ 1000) (hrz : t.rs.length ≤ 1000) {x : Int} (hx : x ∈ row) (z : Int) : g_law_can [.loc t.qo, .v (.int x), .v (.int z)] S = .ok (.v (.bl (lcanB t.kk hd t.rs row g u x z))) S := by
  have o := h.o
  have r := h.r
  have ul := h.u
  have ux := h3.u x hx
  have od := ow_desk t hd ts c
  have orr := ow_row t hd ts c
  have ou := ow_until t hd ts c
  have d2 := dk2 t hd ts
  have d5 := dk5 t hd ts
  unfold deskD rowT at od
  unfold lcanB
  cases hu : u x with
  | some v =>
    rw [hu] at ux
    unfold tilD at ux
    generalize ownD t hd ts c = ow at *
    by_cases q : v ≤ z
    · simp_arith [g_law_can, den_law_can, dRGet, rdcD, dctD, keyD, dIdx, dPut, dAugL, dDAug, dDPut, dSt, o, ul, ou, ux, ge_iff_le, q]
    · simp_arith [g_law_can, den_law_can, dRGet, rdcD, dctD, keyD, dIdx, dPut, dAugL, dDAug, dDPut, dSt, o, ul, ou, ux, ge_iff_le, q]
  | none =>
    rw [hu] at ux
    have tn : tilD none = .v .non := rfl
    rw [tn] at ux
    dsimp only
    have e1 := fun r0 => itLG_enc (dg := dName 5) (dt := claw_can3t) (de := claw_can3e) (vs := [5]) (r0 := r0) (w := [.d (.loc t.qo), .d (.v (.int x)), .d (.v (.int z)), .d (.v .non), .no, .no, .no]) (S := S) (enc := I) (p := fun y => (u y).isNone) (f := I) r row [] ⟨[.d (.loc t.qo), .d (.v (.int x)), .d (.v (.int z)), .d (.v .non), .no, .no, .no], S⟩ rfl rfl (by simp; omega) (fun y hy => by
      have uy := h3.u y hy
      have tt := fun c => gNone_til false (u y) c
      refine ⟨⟨[.d (.loc t.qo), .d (.v (.int x)), .d (.v (.int z)), .d (.v .non), .no, .d (.v (.int y)), .no], S⟩, rfl, ⟨[.d (.loc t.qo), .d (.v (.int x)), .d (.v (.int z)), .d (.v .non), .no, .d (.v (.int y)), .no], S⟩, ?_, rfl, rfl, fun _ => ⟨⟨[.d (.loc t.qo), .d (.v (.int x)), .d (.v (.int z)), .d (.v .non), .no, .d (.v (.int y)), .no], S⟩, rfl, rfl, rfl⟩⟩
      generalize tilD (u y) = tu at *
      generalize ownD t hd ts c = ow at *
      simp_arith [claw_can3t, dRGet, rdcD, dctD, keyD, dIdx, dPut, dAugL, dDAug, dDPut, dSt, o, ul, ou, uy, tt, -gNone])
    obtain ⟨W, hW⟩ : ∃ W, row.filter (fun y => (u y).isNone) = W := ⟨_, rfl⟩
    rw [hW] at e1 ⊢
    have wl : W.length ≤ 1000 := by rw [← hW]; exact Nat.le_trans (List.length_filter_le _ _) hz
    have wr : ∀ y ∈ W, y ∈ row := fun y hy => by rw [← hW] at hy; exact (List.mem_filter.mp hy).1
    have e2 := fun r0 => itL_enc (dg := dName 6) (dt := claw_can2t) (de := claw_can2e) (vs := [6]) (r0 := r0) (w := [.d (.loc t.qo), .d (.v (.int x)), .d (.v (.int z)), .d (.v .non), .own (.lst (W.map I)), .no, .no]) (S := S) (enc := pD) (p := fun p : Int × Int => decide (p.1 ≤ z) && decide (z < p.2)) (f := pD) t.rs ⟨[.d (.loc t.qo), .d (.v (.int x)), .d (.v (.int z)), .d (.v .non), .own (.lst (W.map I)), .no, .no], S⟩ rfl rfl (by omega) (fun p hp => by
      refine ⟨⟨[.d (.loc t.qo), .d (.v (.int x)), .d (.v (.int z)), .d (.v .non), .own (.lst (W.map I)), .no, .d (pD p)], S⟩, rfl, ⟨[.d (.loc t.qo), .d (.v (.int x)), .d (.v (.int z)), .d (.v .non), .own (.lst (W.map I)), .no, .d (pD p)], S⟩, ?_, rfl, fun _ => rfl, fun _ => ⟨⟨[.d (.loc t.qo), .d (.v (.int x)), .d (.v (.int z)), .d (.v .non), .own (.lst (W.map I)), .no, .d (pD p)], S⟩, rfl, rfl, rfl⟩⟩
      have p0 : atI [D.v (V.int p.1), .v (.int p.2)] 0 = some (.v (.int p.1)) := rfl
      have p1 : atI [D.v (V.int p.1), .v (.int p.2)] 1 = some (.v (.int p.2)) := rfl
      unfold pD
      generalize W.map I = WI at *
      by_cases q : p.1 ≤ z
      · simp_arith [claw_can2t, p0, p1, q, Bool.true_and]
      · simp_arith [claw_can2t, p0, p1, q, Bool.false_and])
    have ne := fun c => gEq_nil (neg := true) (l := (t.rs.filter fun p => decide (p.1 ≤ z) && decide (z < p.2)).map pD) (c := c) (pyd_pD _)
    have ie : ((t.rs.filter fun p => decide (p.1 ≤ z) && decide (z < p.2)).map pD).isEmpty = !restB t.rs z := by
      rw [← rest_filter]
      cases (t.rs.filter fun p => decide (p.1 ≤ z) && decide (z < p.2)) <;> rfl
    rw [ie] at ne
    have e3 := fun r0 => itL_enc (dg := dName 5) (dt := claw_can1t) (de := claw_can1e) (vs := [5]) (r0 := r0) (w := [.d (.loc t.qo), .d (.v (.int x)), .d (.v (.int z)), .d (.v .non), .d (.lst (W.map I)), .no, .no]) (S := S) (enc := I) (p := fun y => !decide (y = x)) (f := fun y => D.v (.bl (ahB t.kk g row y x))) W ⟨[.d (.loc t.qo), .d (.v (.int x)), .d (.v (.int z)), .d (.v .non), .d (.lst (W.map I)), .no, .no], S⟩ rfl rfl (by omega) (fun y hy => by
      have ah := ahead_ok h h3 hx (wr y hy)
      refine ⟨⟨[.d (.loc t.qo), .d (.v (.int x)), .d (.v (.int z)), .d (.v .non), .d (.lst (W.map I)), .d (.v (.int y)), .no], S⟩, rfl, ⟨[.d (.loc t.qo), .d (.v (.int x)), .d (.v (.int z)), .d (.v .non), .d (.lst (W.map I)), .d (.v (.int y)), .no], S⟩, ?_, rfl, fun _ => rfl, fun _ => ⟨⟨[.d (.loc t.qo), .d (.v (.int x)), .d (.v (.int z)), .d (.v .non), .d (.lst (W.map I)), .d (.v (.int y)), .no], S⟩, ?_, rfl, rfl⟩⟩
      · generalize W.map I = WI at *
        by_cases q : y = x
        · have q' : decide (y = x) = true := decide_eq_true q
          simp_arith [claw_can1t, q']
        · have q' : decide (y = x) = false := decide_eq_false q
          simp_arith [claw_can1t, q']
      · generalize W.map I = WI at *
        simp_arith [claw_can1e, ah])
    have ga := fun c => gAny_map (fun y => ahB t.kk g row y x) (W.filter fun y => !decide (y = x)) c
    have rl : ((row.map I).length : Int) = (row.length : Nat) := by rw [List.length_map]
    have wl2 : ((W.map I).length : Int) = (W.length : Nat) := by rw [List.length_map]
    simp only [List.nil_append] at e1
    generalize ((W.filter fun y => !decide (y = x)).map fun y => D.v (.bl (ahB t.kk g row y x))) = GL at *
    generalize ((W.filter fun y => !decide (y = x)).any fun y => ahB t.kk g row y x) = gb at *
    generalize (t.rs.filter fun p => decide (p.1 ≤ z) && decide (z < p.2)).map pD = RF' at *
    generalize t.rs.map pD = RI at *
    generalize ((row.length : Nat) : Int) = nrow at *
    generalize ((W.length : Nat) : Int) = nw at *
    generalize W.map I = WI at *
    generalize row.map I = RR at *
    generalize (Sta.desk t.dn hd ts t.kk t.rs t.en).row = dr at *
    generalize ownD t hd ts c = ow at *
    by_cases q1 : hd ≤ nrow - nw
    · simp_arith [g_law_can, den_law_can, dLcA, dLcX, dRGet, rdcD, dctD, keyD, dIdx, dPut, dAugL, dDAug, dDPut, dSt, o, r, ul, od, orr, ou, ux, d2, d5, e1, rl, wl2, ge_iff_le, q1, -gAny, -gEq_pair, -gEq_ints, -gEq_int, -itL]
    · cases q2 : restB t.rs z with
      | true =>
        rw [q2] at ne
        simp_arith [g_law_can, den_law_can, dLcA, dLcX, dRGet, rdcD, dctD, keyD, dIdx, dPut, dAugL, dDAug, dDPut, dSt, o, r, ul, od, orr, ou, ux, d2, d5, e1, rl, wl2, ge_iff_le, q1, e2, ne, -gAny, -gEq_pair, -gEq_ints, -gEq_int, -itL]
      | false =>
        rw [q2] at ne
        simp_arith [g_law_can, den_law_can, dLcA, dLcX, dRGet, rdcD, dctD, keyD, dIdx, dPut, dAugL, dDAug, dDPut, dSt, o, r, ul, od, orr, ou, ux, d2, d5, e1, rl, wl2, ge_iff_le, q1, e2, ne, e3, ga, -gAny, -gEq_pair, -gEq_ints, -gEq_int, -itL]
theorem ok_law_can (T : Tx K mg Env.Place Env.Passing Env.DeskPlace Env.Visitor Env.Floor Env.cl_DeskPlace_first Env.tl_DeskPlace_first) (h_F__law_ahead : Okf P w K mg base 1 "_law_ahead" ["_law_own", "_law_one", "_law_number"] g_law_ahead) : Okf P w K mg base 2 "_law_can" ["_law_own", "_law_number", "_law_turn"] g_law_can := (raw_law_can T h_F__law_ahead).by eq_law_can
abbrev slaw_desk : Stmt := (top 20)
abbrev Nlaw_desk : List Str := ["_law_cell", "_law_names_here", "_law_takes", "_law_rests", "_law_j", "_law_begin", "_law_hands"]
theorem sclaw_desk : FnScope Nlaw_desk ["_law_cell", "_law_names_here"] (defScope slaw_desk) := ⟨rfl, rfl, rfl, by decide +kernel, rfl, by decide +kernel, by decide +kernel⟩
noncomputable def flaw_desk1b : M Fl :=
    (dSeq (dSet 5 (dOp gMod (okD (dCall g_law_mixed (dCons (dD (dVar 0)) (dCons (dOp gAdd (dC (.int 5)) (dVar 4)) dNil)))) (dC (.int 20))))
    (dDrop (okD (dApp (dVar 3) (dTup (dCons (dD (dVar 5)) (dCons (dOp gAdd (okD (dOp gAdd (dVar 5) (dC (.int 1)))) (okD (dOp gMod (okD (dOp gDiv (okD (dCall g_law_mixed (dCons (dD (dVar 0)) (dCons (dOp gAdd (dC (.int 9)) (dVar 4)) dNil)))) (dC (.int 7)))) (dC (.int 8))))) dNil)))))))
noncomputable def claw_desk1e : M D :=
    (dOp gAdd (dC (.int 1)) (okD (dOp gMod (okD (dOp gDiv (okD (dCall g_law_mixed (dCons (dD (dVar 0)) (dCons (dD (dVar 4)) dNil)))) (dC (.int 7)))) (okD (dOp gIx (okN (dLst (dCons (dD (dC (.int 4))) (dCons (dD (dC (.int 4))) (dCons (dD (dC (.int 99))) dNil))))) (okD (dOp gMod (okD (dCall g_law_mixed (dCons (dD (dVar 0)) (dCons (dD (dVar 4)) dNil)))) (dC (.int 3)))))))))
noncomputable def den_law_desk : M Fl :=
    (dSeq (dSet 2 (M.bind (okN (dLc (M.bind (dCons (dOp gAdd (dC (.int 1)) (okD (dOp gMod (dVar 0) (dC (.int 4))))) dNil) rng1X) (dName 4) (M.pure true) claw_desk1e [4])) gTupOf))
    (dSeq (dSetN 3 (dLst dNil))
    (dSeq (dFor (M.bind (dCons (dOp gMod (okD (dOp gDiv (dVar 0) (dC (.int 4)))) (dC (.int 4))) dNil) rng1X) (dName 4) flaw_desk1b)
    (dSeq (dSet 6 (dOp gAdd (dC (.int 1)) (okD (dOp gMod (okD (dOp gDiv (dVar 0) (dC (.int 16)))) (okD (dOp gIx (okN (dLst (dCons (dD (dC (.int 3))) (dCons (dD (dC (.int 9))) dNil)))) (okD (dOp gMod (okD (dOp gDiv (dVar 0) (dC (.int 144)))) (dC (.int 2))))))))))
    (dRet (dTup (dCons (dD (dC (.str "desk"))) (dCons (dOp gIx (dVar 1) (dC (.int 0))) (dCons (dD (dVar 6)) (dCons (dD (dVar 2)) (dCons (dOp (gEq false) (okD (dOp gMod (okD (dOp gDiv (dVar 0) (dC (.int 288)))) (dC (.int 2)))) (dC (.int 1))) (dCons (M.bind (dVar 3) gTupOf) (dCons (dOp gIx (dVar 1) (dC (.int 1))) dNil)))))))))))))
theorem raw_law_desk (T : Tx K mg Env.Place Env.Passing Env.DeskPlace Env.Visitor Env.Floor Env.cl_DeskPlace_first Env.tl_DeskPlace_first) (h_F__law_mixed : Okf P w K mg base 1 "_law_mixed" ["_law_cell", "_law_k"] g_law_mixed) : Okf P w K mg base 2 "_law_desk" ["_law_cell", "_law_names_here"] (runD 7 2 den_law_desk) := by
  have sc := sclaw_desk
  exact ok_has (N := Nlaw_desk) T.d_law_desk sc rfl (by decide) fun f cdv A outer s H E hr => ⟨_, ((bd_cons (sd_set (i := 2) sc.nd rfl (by first | exact Or.inl rfl | exact Or.inr rfl) (dd_t1 bTup (by rfl) T.n_tuple (by decide +kernel) (EN.e (en_lc (own := [("_law_j", 4)]) (W' := W0) rfl sc.nd (id_range1 (by rfl) T.n_range (ad_cons (dd_add ed_int (DD.e (dd_mod (ed_var 0) ed_int))) ad_nil)) (blkOk_by (N := Nlaw_desk) (sc := defScope slaw_desk) (by decide +kernel)) (fun _ _ _ _ _ => (gd_name (i := 4) sc.nd rfl (by first | exact Or.inl rfl | exact Or.inr rfl))) (fun _ _ _ _ _ => tsd_nil) (fun _ _ _ _ _ => (dd_add ed_int (DD.e (dd_mod (DD.e (dd_div (DD.e (dd_fn h_F__law_mixed (hr.mono (by decide)) (by rfl) pol0 (ad_cons (ED.d (ed_var 0)) (ad_cons (ED.d (ed_var 4)) ad_nil)))) ed_int)) (DD.e (dd_ix (EN.e (en_lst (ad_cons (ED.d ed_int) (ad_cons (ED.d ed_int) (ad_cons (ED.d ed_int) ad_nil))))) (DD.e (dd_mod (DD.e (dd_fn h_F__law_mixed (hr.mono (by decide)) (by rfl) pol0 (ad_cons (ED.d (ed_var 0)) (ad_cons (ED.d (ed_var 4)) ad_nil)))) ed_int)) (fun _ _ => rfl)))))))))))
    (bd_cons (sd_setN (i := 3) sc.nd rfl (by first | exact Or.inl rfl | exact Or.inr rfl) (en_lst ad_nil))
    (bd_cons (sd_for (passes_of rfl) rfl (id_range1 (by rfl) T.n_range (ad_cons (dd_mod (DD.e (dd_div (ed_var 0) ed_int)) ed_int) ad_nil)) (gd_name (i := 4) sc.nd rfl (by first | exact Or.inl rfl | exact Or.inr rfl)) (bd_cons (sd_set (i := 5) sc.nd rfl (by first | exact Or.inl rfl | exact Or.inr rfl) (dd_mod (DD.e (dd_fn h_F__law_mixed (hr.mono (by decide)) (by rfl) (pol_of (L2N.takes_of rfl rfl rfl rfl)) (ad_cons (ED.d (ed_var 0)) (ad_cons (dd_add ed_int (ed_var 4)) ad_nil)))) ed_int))
    (bd_one (sd_expr (DD.e (dd_append (ed_var 3) (dd_tup (ad_cons (ED.d (ed_var 5)) (ad_cons (dd_add (DD.e (dd_add (ed_var 5) ed_int)) (DD.e (dd_mod (DD.e (dd_div (DD.e (dd_fn h_F__law_mixed (hr.mono (by decide)) (by rfl) (pol_of (L2N.takes_of rfl rfl rfl rfl)) (ad_cons (ED.d (ed_var 0)) (ad_cons (dd_add ed_int (ed_var 4)) ad_nil)))) ed_int)) ed_int))) ad_nil)))))))))
    (bd_cons (sd_set (i := 6) sc.nd rfl (by first | exact Or.inl rfl | exact Or.inr rfl) (dd_add ed_int (DD.e (dd_mod (DD.e (dd_div (ed_var 0) ed_int)) (DD.e (dd_ix (EN.e (en_lst (ad_cons (ED.d ed_int) (ad_cons (ED.d ed_int) ad_nil)))) (DD.e (dd_mod (DD.e (dd_div (ed_var 0) ed_int)) ed_int)) (fun _ _ => rfl)))))))
    (bd_one (sd_ret (dd_tup (ad_cons (ED.d ed_str) (ad_cons (dd_ix (ed_var 1) ed_int (fun _ _ => rfl)) (ad_cons (ED.d (ed_var 6)) (ad_cons (ED.d (ed_var 2)) (ad_cons (dd_cmp (cEq hr.units) (DD.e (dd_mod (DD.e (dd_div (ed_var 0) ed_int)) ed_int)) ed_int (nomark _)) (ad_cons (dd_t1 bTup (by rfl) T.n_tuple (by decide +kernel) (ed_var 3)) (ad_cons (dd_ix (ed_var 1) ed_int (fun _ _ => rfl)) ad_nil)))))))))))))) : BD _ _ _ _ den_law_desk)⟩
noncomputable def g_law_desk : G := runD 7 2 den_law_desk
theorem eq_law_desk : ∀ ds S, g_law_desk ds S ≠ .no → runD 7 2 den_law_desk ds S = g_law_desk ds S := fun _ _ _ => rfl
def tk22 (c z : Int) : Int := 1 + ((mixed c z).fdiv 7).fmod (([4, 4, 99] : List Int).getD ((mixed c z).fmod 3).toNat 0)
def rs22 (c z : Int) : Int × Int := ((mixed c (5 + z)).fmod 20, (mixed c (5 + z)).fmod 20 + 1 + ((mixed c (9 + z)).fdiv 7).fmod 8)
def takes22 (c : Int) : List Int := numsD (tk22 c) (1 + c.fmod 4).toNat
def rests22 (c : Int) : List (Int × Int) := (List.range ((c.fdiv 4).fmod 4).toNat).map fun j => rs22 c (0 + (j : Nat))
def hands22 (c : Int) : Int := 1 + (c.fdiv 16).fmod (([3, 9] : List Int).getD ((c.fdiv 144).fmod 2).toNat 0)
def kk22 (c : Int) : Bool := decide ((c.fdiv 288).fmod 2 = 1)
def desk22 (c : Int) (n t : Str) : Sta := .desk n (hands22 c) (takes22 c) (kk22 c) (rests22 c) t
theorem one449 (i : Int) (h0 : 0 ≤ i) (h1 : i < 3) : ([4, 4, 99] : List Int).getD i.toNat 0 = 4 ∨ ([4, 4, 99] : List Int).getD i.toNat 0 = 99 := by
  have : i = 0 ∨ i = 1 ∨ i = 2 := by omega
  rcases this with rfl | rfl | rfl
  · exact .inl rfl
  · exact .inl rfl
  · exact .inr rfl
theorem one39 (i : Int) (h0 : 0 ≤ i) (h1 : i < 2) : ([3, 9] : List Int).getD i.toNat 0 = 3 ∨ ([3, 9] : List Int).getD i.toNat 0 = 9 := by
  have : i = 0 ∨ i = 1 := by omega
  rcases this with rfl | rfl
  · exact .inl rfl
  · exact .inr rfl
theorem desk_takes (c m : Int) (h0 : 1 ≤ m) (h1 : m ≤ 4) (r0 : List Slot) (x1 x2 x3 x5 x6 : Slot) (S : List Cell) : itL (dName 4) (M.pure true) claw_desk1e [4] r0 (rngD 0 m.toNat) [] ⟨[.d (.v (.int c)), x1, x2, x3, .no, x5, x6], S⟩ = .ok ((numsD (tk22 c) m.toNat).map I) ⟨[.d (.v (.int c)), x1, x2, x3, .no, x5, x6], S⟩ := by
  have d7 : divOk 7 := divOk_s (by decide) (by decide)
  have d3 : divOk 3 := divOk_s (by decide) (by decide)

  rw [← numsD_I]
  exact itL_rng (f := fun z => .v (.int (tk22 c z))) (by omega) (fun z z0 z1 => by
    have ex := gx c z S (by omega)
    have b := fmod_bd (c := mixed c z) (m := 3) (by decide)
    have ev := atI_fmod (f := I) (xs := [4, 4, 99]) (c := mixed c z) (m := 3) (d := 0) rfl (by decide)
    simp only [List.map_cons, List.map_nil, I] at ev
    have o := one449 _ b.1 b.2
    unfold tk22
    generalize ([4, 4, 99] : List Int).getD ((mixed c z).fmod 3).toNat 0 = q at *
    have dq : divOk q := by rcases o with rfl | rfl <;> exact divOk_s (by decide) (by decide)
    have dz : (q = 0) = False := eq_false (by rcases o with rfl | rfl <;> decide)
    refine ⟨⟨[.d (.v (.int c)), x1, x2, x3, .d (.v (.int z)), x5, x6], S⟩, rfl, rfl, rfl, ⟨[.d (.v (.int c)), x1, x2, x3, .d (.v (.int z)), x5, x6], S⟩, ?_, rfl, rfl⟩
    simp_arith [claw_desk1e, ex, ev, dq, dz, d7, d3]) _ rfl rfl
theorem desk_rests (c : Int) (n : Nat) (hn : n ≤ 4) (x1 x2 x6 : Slot) (S : List Cell) : ∃ x4 x5, itF (dName 4) flaw_desk1b (rngD 0 n) ⟨[.d (.v (.int c)), x1, x2, .own (.lst []), .no, .no, x6], S⟩ = .ok .nx ⟨[.d (.v (.int c)), x1, x2, .own (.lst (((List.range n).map fun j => rs22 c (0 + (j : Nat))).map pD)), x4, x5, x6], S⟩ := by
  have d20 : divOk 20 := divOk_s (by decide) (by decide)
  have d7 : divOk 7 := divOk_s (by decide) (by decide)
  have d8 : divOk 8 := divOk_s (by decide) (by decide)

  obtain ⟨c', e, x4, x5, rfl⟩ := itF_invL (dg := dName 4) (db := flaw_desk1b) (Inv := fun j c' => ∃ x4 x5 : Slot, c' = ⟨[.d (.v (.int c)), x1, x2, .own (.lst (((List.range j).map fun j => rs22 c (0 + (j : Nat))).map pD)), x4, x5, x6], S⟩) (rngD 0 n) ⟨[.d (.v (.int c)), x1, x2, .own (.lst []), .no, .no, x6], S⟩ ⟨_, _, rfl⟩ (by
    rintro j d _ hd ⟨x4, x5, rfl⟩
    obtain ⟨rfl, hj⟩ := rng_at hd
    have em : ((List.range (j + 1)).map fun j => rs22 c (0 + (j : Nat))).map pD = ((List.range j).map fun j => rs22 c (0 + (j : Nat))).map pD ++ [pD (rs22 c (0 + (j : Nat)))] := by rw [List.range_succ, List.map_append, List.map_append]; rfl
    have zz : (((List.range j).map fun j => rs22 c (0 + (j : Nat))).map pD).length < 1000000 := by rw [List.length_map, List.length_map, List.length_range]; omega
    obtain ⟨z, hz⟩ : ∃ z : Int, z = 0 + ((j : Nat) : Int) := ⟨_, rfl⟩
    rw [← hz] at em ⊢
    have ex := gx c (5 + z) S (by omega)
    have ex2 := gx c (9 + z) S (by omega)
    refine ⟨_, rfl, ⟨[.d (.v (.int c)), x1, x2, .own (.lst (((List.range (j + 1)).map fun j => rs22 c (0 + (j : Nat))).map pD)), .d (.v (.int z)), .d (.v (.int ((mixed c (5 + z)).fmod 20))), x6], S⟩, ?_, _, _, rfl⟩
    rw [em]
    have ep : pD (rs22 c z) = .tup [.v (.int ((mixed c (5 + z)).fmod 20)), .v (.int ((mixed c (5 + z)).fmod 20 + 1 + ((mixed c (9 + z)).fdiv 7).fmod 8))] := rfl
    rw [ep]
    generalize List.map pD _ = xs at *
    simp_arith [flaw_desk1b, ex, ex2, zz, d20, d7, d8])
  rw [rngL] at e
  exact ⟨_, _, e⟩
theorem desk_ok (c : Int) (ws : List Str) (hw : 2 ≤ ws.length) (S : List Cell) : g_law_desk [.v (.int c), .lst (Ss ws)] S = .ok (rowT (desk22 c (pk ws 0) (pk ws 1))) S := by
  have d2 : divOk 2 := divOk_s (by decide) (by decide)
  have d3 : divOk 3 := divOk_s (by decide) (by decide)
  have d4 : divOk 4 := divOk_s (by decide) (by decide)
  have d7 : divOk 7 := divOk_s (by decide) (by decide)
  have d8 : divOk 8 := divOk_s (by decide) (by decide)
  have d16 : divOk 16 := divOk_s (by decide) (by decide)
  have d20 : divOk 20 := divOk_s (by decide) (by decide)
  have d144 : divOk 144 := divOk_s (by decide) (by decide)
  have d288 : divOk 288 := divOk_s (by decide) (by decide)

  have b4 := fmod_bd (c := c) (m := 4) (by decide)
  have b5 := fmod_bd (c := c.fdiv 4) (m := 4) (by decide)
  have b6 := fmod_bd (c := c.fdiv 144) (m := 2) (by decide)
  obtain ⟨m, hm⟩ : ∃ m : Int, m = 1 + c.fmod 4 := ⟨_, rfl⟩
  obtain ⟨k, hk⟩ : ∃ k : Int, k = (c.fdiv 4).fmod 4 := ⟨_, rfl⟩
  have q1 : -4611686018427387904 ≤ m := by omega
  have q2 : m.toNat < 4611686018427387904 := by omega
  have q3 : -4611686018427387904 ≤ k := by omega
  have q4 : k.toNat < 4611686018427387904 := by omega
  have e := desk_takes c m (by omega) (by omega)
  have zt : (numsD (tk22 c) m.toNat).length ≤ 1000000 := by rw [numsD_len]; omega
  have et : numsD (tk22 c) m.toNat = takes22 c := by rw [hm]; rfl
  rw [et] at e zt
  have zt : ((takes22 c).map I).length ≤ 1000000 := by rw [List.length_map]; exact zt
  obtain ⟨y4, y5, er⟩ := desk_rests c k.toNat (by omega) (.d (.lst (Ss ws))) (.d (.tup ((takes22 c).map I))) .no S
  have ek : ((List.range k.toNat).map fun j => rs22 c (0 + (j : Nat))) = rests22 c := by rw [hk]; rfl
  have zr : ((rests22 c).map pD).length ≤ 1000000 := by rw [← ek, List.length_map, List.length_map, List.length_range]; omega
  rw [ek] at er
  have a0 := pk_at (gs := ws) (i := 0) (by omega) (by omega)
  have a1 := pk_at (gs := ws) (i := 1) (by omega) (by omega)
  have ev := atI_fmod (f := I) (xs := [3, 9]) (c := c.fdiv 144) (m := 2) (d := 0) rfl (by decide)
  simp only [List.map_cons, List.map_nil, I] at ev
  have o := one39 _ b6.1 b6.2
  unfold desk22 hands22 kk22
  generalize ([3, 9] : List Int).getD ((c.fdiv 144).fmod 2).toNat 0 = q at *
  have dq : divOk q := by rcases o with rfl | rfl <;> exact divOk_s (by decide) (by decide)
  have dz : (q = 0) = False := eq_false (by rcases o with rfl | rfl <;> decide)
  generalize Ss ws = WS at *
  show _ = RF.ok (.tup [.v (.str "desk"), sD (pk ws 0), .v (.int (1 + (c.fdiv 16).fmod q)), .tup ((takes22 c).map I), .v (.bl (decide ((c.fdiv 288).fmod 2 = 1))), .tup ((rests22 c).map pD), sD (pk ws 1)]) S
  generalize (takes22 c).map I = TS at *
  generalize (rests22 c).map pD = RS at *
  simp_arith [g_law_desk, den_law_desk, d2, d3, d4, d7, d8, d16, d20, d144, d288, ← hm, ← hk, q1, q2, q3, q4, e, er, a0, a1, ev, dq, dz, zt, zr]
theorem ok_law_desk (T : Tx K mg Env.Place Env.Passing Env.DeskPlace Env.Visitor Env.Floor Env.cl_DeskPlace_first Env.tl_DeskPlace_first) (h_F__law_mixed : Okf P w K mg base 1 "_law_mixed" ["_law_cell", "_law_k"] g_law_mixed) : Okf P w K mg base 2 "_law_desk" ["_law_cell", "_law_names_here"] g_law_desk := (raw_law_desk T h_F__law_mixed).by eq_law_desk
theorem ok_B_Passing___init__ (T : Tx K mg Env.Place Env.Passing Env.DeskPlace Env.Visitor Env.Floor Env.cl_DeskPlace_first Env.tl_DeskPlace_first) (h_B_Place___init__ : Okb P w K mg base 1 "Place" "__init__" ["self", "told"] g_Place___init__) : Okb P w K mg base 2 "Passing" "__init__" ["self", "told"] g_Passing___init__ := okb_of T.b_Passing_init__ (by decide) fun F => ok_Passing___init__ T h_B_Place___init__ F
theorem ok_B_Passing_moves (T : Tx K mg Env.Place Env.Passing Env.DeskPlace Env.Visitor Env.Floor Env.cl_DeskPlace_first Env.tl_DeskPlace_first) (h_M_enter_3 : OkmL P w K mg base 1 L_enter_3 "enter" ["self", "number", "name", "turn"]) : Okb P w K mg base 2 "Passing" "moves" ["self", "floor", "number", "turn"] g_Passing_moves := okb_of T.b_Passing_moves (by decide) fun F => ok_Passing_moves T h_M_enter_3 F
theorem ok_I_Passing (T : Tx K mg Env.Place Env.Passing Env.DeskPlace Env.Visitor Env.Floor Env.cl_DeskPlace_first Env.tl_DeskPlace_first) (h_B_Place___init__ : Okb P w K mg base 1 "Place" "__init__" ["self", "told"] g_Place___init__) : Okc P w K mg base 2 "Passing" Env.Passing ["self", "told"] g_Passing___init__ := okc_of T.i_Passing (by decide) fun F => ok_Passing___init__ T h_B_Place___init__ F
noncomputable def L_change_1_F : List (Addr × G) := [(Env.Floor, g_Floor_change)]
theorem ok_M_change_1_F (T : Tx K mg Env.Place Env.Passing Env.DeskPlace Env.Visitor Env.Floor Env.cl_DeskPlace_first Env.tl_DeskPlace_first) (h_M_change_1_P : OkmL P w K mg base 1 L_change_1_P "change" ["self", "change"]) : OkmL P w K mg base 2 L_change_1_F "change" ["self", "change"] := fun p hp => by
  simp only [L_change_1_F, List.mem_cons, List.not_mem_nil, or_false] at hp
  rcases hp with rfl
  · exact ⟨okm_of T.m_Floor_change_1 (by decide) fun F => ok_Floor_change T h_M_change_1_P F, T.c_Floor⟩
noncomputable def L_served_1 : List (Addr × G) := [(Env.DeskPlace, g_DeskPlace_served)]
theorem ok_M_served_1 (T : Tx K mg Env.Place Env.Passing Env.DeskPlace Env.Visitor Env.Floor Env.cl_DeskPlace_first Env.tl_DeskPlace_first) (h_M_at_1 : OkmL P w K mg base 1 L_at_1 "at" ["self", "name"]) (h_M_where_1 : OkmL P w K mg base 1 L_where_1 "where" ["self", "number"]) : OkmL P w K mg base 2 L_served_1 "served" ["self", "floor"] := fun p hp => by
  simp only [L_served_1, List.mem_cons, List.not_mem_nil, or_false] at hp
  rcases hp with rfl
  · exact ⟨okm_of T.m_DeskPlace_served_1 (by decide) fun F => ok_DeskPlace_served T h_M_at_1 h_M_where_1 F, T.c_DeskPlace⟩
abbrev sDeskPlace___init__ : Stmt := (inClass (top 5) 0)
abbrev NDeskPlace___init__ : List Str := ["self", "told"]
theorem scDeskPlace___init__ : FnScope NDeskPlace___init__ ["self", "told"] (defScope sDeskPlace___init__) := ⟨rfl, rfl, rfl, by decide +kernel, rfl, by decide +kernel, by decide +kernel⟩
noncomputable def den_DeskPlace___init__ : M Fl :=
    (dSeq (dDrop (okD (dBase g_Passing___init__ (dCons (dD (dVar 0)) (dCons (dD (dVar 1)) dNil)))))
    (dSeq (dSetFA Cs_hands "hands" (dOp gIx (dVar 1) (dC (.int 2))) (dVar 0))
    (dSeq (dSetFA Cs_takes "takes" (dOp gIx (dVar 1) (dC (.int 3))) (dVar 0))
    (dSeq (dSetFA Cs_is_ranked "is_ranked" (dOp gIx (dVar 1) (dC (.int 4))) (dVar 0))
    (dSeq (dSetFA Cs_rests "rests" (dOp gIx (dVar 1) (dC (.int 5))) (dVar 0))
    (dSetFA Cs_begun "begun" (dD (dC (.int 0))) (dVar 0)))))))
theorem raw_DeskPlace___init__ (T : Tx K mg Env.Place Env.Passing Env.DeskPlace Env.Visitor Env.Floor Env.cl_DeskPlace_first Env.tl_DeskPlace_first) (h_B_Passing___init__ : Okb P w K mg base 2 "Passing" "__init__" ["self", "told"] g_Passing___init__) {f : Addr} {fd : FuncData} (F : Fun K "__init__" "DeskPlace.__init__" sDeskPlace___init__ f fd) : FnOk P w K mg base (L2N.CX P w) 3 f fd ["self", "told"] (spG K (runD 2 2 den_DeskPlace___init__)) := by
  have sc := scDeskPlace___init__
  exact fn_ok (N := NDeskPlace___init__) F sc rfl (by decide) fun cdv A outer s H E hr => ⟨_, ((bd_cons (sd_expr (DD.e (dd_base h_B_Passing___init__ (hr.mono (by decide)) (by rfl) (ad_cons (ED.d (ed_var 0)) (ad_cons (ED.d (ed_var 1)) ad_nil)))))
    (bd_cons (sd_fldA (fa_hands T) (ed_var 0) (dd_ix (ed_var 1) ed_int (fun _ _ => rfl)))
    (bd_cons (sd_fldA (fa_takes T) (ed_var 0) (dd_ix (ed_var 1) ed_int (fun _ _ => rfl)))
    (bd_cons (sd_fldA (fa_is_ranked T) (ed_var 0) (dd_ix (ed_var 1) ed_int (fun _ _ => rfl)))
    (bd_cons (sd_fldA (fa_rests T) (ed_var 0) (dd_ix (ed_var 1) ed_int (fun _ _ => rfl)))
    (bd_one (sd_fldA (fa_begun T) (ed_var 0) (ED.d ed_int)))))))) : BD _ _ _ _ den_DeskPlace___init__)⟩
noncomputable def g_DeskPlace___init__ : G := runD 2 2 den_DeskPlace___init__
theorem eq_DeskPlace___init__ : ∀ ds S, g_DeskPlace___init__ ds S ≠ .no → runD 2 2 den_DeskPlace___init__ ds S = g_DeskPlace___init__ ds S := fun _ _ _ => rfl
theorem kinit (S : List Cell) (ds : List D) (n th : Str) (hd : Int) (tk rs : D) (rk : Bool) (h1 : atI ds 1 = some (.v (.str n))) (h2 : atI ds (-1) = some (.v (.str th))) (h3 : atI ds 2 = some (.v (.int hd))) (h4 : atI ds 3 = some tk) (h5 : atI ds 4 = some (.v (.bl rk))) (h6 : atI ds 5 = some rs) : g_DeskPlace___init__ [.loc S.length, .tup ds] (S ++ [.ins Env.DeskPlace []]) = .ok (.v .non) (S ++ [.ins Env.DeskPlace (KF n th hd tk rk rs 0)]) := by
  have t1 := tl_get S
  have t2 := tl_set S
  have b := qinit S Env.DeskPlace mC_DeskPlace_called mC_DeskPlace_then ds n th h1 h2
  have p1 : putFD "hands" (.v (.int hd)) (DF n th) = ([("called", .v (.str n)), ("then", .v (.str th)), ("hands", .v (.int hd))] : List (Str × D)) := rfl
  have p2 : putFD "takes" tk ([("called", .v (.str n)), ("then", .v (.str th)), ("hands", .v (.int hd))] : List (Str × D)) = ([("called", .v (.str n)), ("then", .v (.str th)), ("hands", .v (.int hd)), ("takes", tk)] : List (Str × D)) := rfl
  have p3 : putFD "is_ranked" (.v (.bl rk)) ([("called", .v (.str n)), ("then", .v (.str th)), ("hands", .v (.int hd)), ("takes", tk)] : List (Str × D)) = ([("called", .v (.str n)), ("then", .v (.str th)), ("hands", .v (.int hd)), ("takes", tk), ("is_ranked", .v (.bl rk))] : List (Str × D)) := rfl
  have p4 : putFD "rests" rs ([("called", .v (.str n)), ("then", .v (.str th)), ("hands", .v (.int hd)), ("takes", tk), ("is_ranked", .v (.bl rk))] : List (Str × D)) = ([("called", .v (.str n)), ("then", .v (.str th)), ("hands", .v (.int hd)), ("takes", tk), ("is_ranked", .v (.bl rk)), ("rests", rs)] : List (Str × D)) := rfl
  have p5 : putFD "begun" (.v (.int 0)) ([("called", .v (.str n)), ("then", .v (.str th)), ("hands", .v (.int hd)), ("takes", tk), ("is_ranked", .v (.bl rk)), ("rests", rs)] : List (Str × D)) = KF n th hd tk rk rs 0 := rfl
  have l1 : (DF n th).length = 2 := rfl
  simp_arith [g_DeskPlace___init__, den_DeskPlace___init__, dBase, dFldA, dSetFA, dMethL, dMeth, insA, insD, dRGet, rdcD, dctD, keyD, dSt, dDAug, rol, spl, izl, gsl, Sdl, vcell, tilD, dFldAug, h3, h4, h5, h6, t1, t2, mC_DeskPlace_called, mC_DeskPlace_then, mC_DeskPlace_hands, mC_DeskPlace_takes, mC_DeskPlace_is_ranked, mC_DeskPlace_rests, mC_DeskPlace_begun, p1, p2, p3, p4, p5, b, l1]
theorem ok_DeskPlace___init__ (T : Tx K mg Env.Place Env.Passing Env.DeskPlace Env.Visitor Env.Floor Env.cl_DeskPlace_first Env.tl_DeskPlace_first) (h_B_Passing___init__ : Okb P w K mg base 2 "Passing" "__init__" ["self", "told"] g_Passing___init__) {f : Addr} {fd : FuncData} (F : Fun K "__init__" "DeskPlace.__init__" sDeskPlace___init__ f fd) : FnOk P w K mg base (L2N.CX P w) 3 f fd ["self", "told"] (spG K g_DeskPlace___init__) := FnOk.by (raw_DeskPlace___init__ T h_B_Passing___init__ F) eq_DeskPlace___init__
abbrev sDeskPlace_moves : Stmt := (inClass (top 5) 5)
abbrev NDeskPlace_moves : List Str := ["self", "floor", "number", "turn"]
theorem scDeskPlace_moves : FnScope NDeskPlace_moves ["self", "floor", "number", "turn"] (defScope sDeskPlace_moves) := ⟨rfl, rfl, rfl, by decide +kernel, rfl, by decide +kernel, by decide +kernel⟩
noncomputable def den_DeskPlace_moves : M Fl :=
    (dSeq (dIfS (dCmpT (gNone true) (okD (dOp gIx (okD (dMethL L_where_1 "where" (dVar 1) (dCons (dD (dVar 2)) dNil))) (dC (.int 2)))) (dC .non)) (dRet (dBase g_Passing_moves (dCons (dD (dVar 0)) (dCons (dD (dVar 1)) (dCons (dD (dVar 2)) (dCons (dD (dVar 3)) dNil)))))) dNx)
    (dSeq (dDrop (okD (dMethL L_serve_2 "serve" (dVar 1) (dCons (dD (dVar 2)) (dCons (dOp gAdd (dVar 3) (okD (dOp gIx (okD (dFldA Cs_takes "takes" (dVar 0))) (okD (dOp gMod (okD (dFldA Cs_begun "begun" (dVar 0))) (okD (M.bind (okD (dFldA Cs_takes "takes" (dVar 0))) gLen))))))) dNil)))))
    (dSeq (dFldAug Cs_begun "begun" (fun i j => i + j) (dVar 0) (dD (dC (.int 1))))
    (dRet (dTup (dCons (dD (dC (.str "begins"))) (dCons (dFldA Cs_called "called" (dVar 0)) dNil)))))))
theorem raw_DeskPlace_moves (T : Tx K mg Env.Place Env.Passing Env.DeskPlace Env.Visitor Env.Floor Env.cl_DeskPlace_first Env.tl_DeskPlace_first) (h_B_Passing_moves : Okb P w K mg base 2 "Passing" "moves" ["self", "floor", "number", "turn"] g_Passing_moves) (h_M_serve_2 : OkmL P w K mg base 1 L_serve_2 "serve" ["self", "number", "until"]) (h_M_where_1 : OkmL P w K mg base 1 L_where_1 "where" ["self", "number"]) {f : Addr} {fd : FuncData} (F : Fun K "moves" "DeskPlace.moves" sDeskPlace_moves f fd) : FnOk P w K mg base (L2N.CX P w) 3 f fd ["self", "floor", "number", "turn"] (spG K (runD 4 4 den_DeskPlace_moves)) := by
  have sc := scDeskPlace_moves
  exact fn_ok (N := NDeskPlace_moves) F sc rfl (by decide) fun cdv A outer s H E hr => ⟨_, ((bd_cons (sd_if (td_cmp cIsNot (DD.e (dd_ix (DD.e (dd_methL h_M_where_1 (hr.mono (by decide)) (ed_var 1) (ad_cons (ED.d (ed_var 2)) ad_nil))) ed_int (fun _ _ => rfl))) ed_non (nomark _)) (bd_one (sd_ret (dd_base h_B_Passing_moves (hr.mono (by decide)) (by rfl) (ad_cons (ED.d (ed_var 0)) (ad_cons (ED.d (ed_var 1)) (ad_cons (ED.d (ed_var 2)) (ad_cons (ED.d (ed_var 3)) ad_nil))))))) bd_nil)
    (bd_cons (sd_expr (DD.e (dd_methL h_M_serve_2 (hr.mono (by decide)) (ed_var 1) (ad_cons (ED.d (ed_var 2)) (ad_cons (dd_add (ed_var 3) (DD.e (dd_ix (DD.e (dd_fldA (fa_takes T) (ed_var 0))) (DD.e (dd_mod (DD.e (dd_fldA (fa_begun T) (ed_var 0))) (DD.e (dd_b1 bLen (by rfl) T.n_len (by decide +kernel) (DD.e (dd_fldA (fa_takes T) (ed_var 0))))))) (fun _ _ => rfl)))) ad_nil)))))
    (bd_cons (sd_fldaug in_add rd_add (fa_begun T) (ed_var 0) (ED.d ed_int))
    (bd_one (sd_ret (dd_tup (ad_cons (ED.d ed_str) (ad_cons (dd_fldA (fa_called T) (ed_var 0)) ad_nil)))))))) : BD _ _ _ _ den_DeskPlace_moves)⟩
noncomputable def g_DeskPlace_moves : G := runD 4 4 den_DeskPlace_moves
theorem eq_DeskPlace_moves : ∀ ds S, g_DeskPlace_moves ds S ≠ .no → runD 4 4 den_DeskPlace_moves ds S = g_DeskPlace_moves ds S := fun _ _ _ => rfl
def tkAt (ts : List Int) (c : Int) : Int := ts.getD (c.fmod (ts.length : Int)).toNat 0
theorem tk_at {ts : List Int} (h : 1 ≤ ts.length) (c : Int) : atI (ts.map I) (c.fmod (ts.length : Int)) = some (I (tkAt ts c)) := by
  have b := fmod_bd (c := c) (m := (ts.length : Int)) (by omega)
  exact atI_map (f := I) b.1 b.2
theorem dmoves_go {L : Lay} {m : Fm} {S : List Cell} (h : FloorAt L m S) {k : Nat} {v : Vz} (hk : m.vis[k]? = some v) (hn : v.called ∈ m.ns) {th : Str} {hd bg : Int} {tk rs : D} {rk : Bool} (hp : m.plc v.called = .ins Env.DeskPlace (KF v.called th hd tk rk rs bg)) (hn2 : th ∈ m.ns) (hm : ((k : Nat) : Int) ∈ m.rows v.called) (hz : (m.rows v.called).length < 1000) (hz2 : (m.rows th).length < 1000) (z t : Int) (hu : v.til = some t) : ∃ S', g_DeskPlace_moves [.loc (L.pl v.called), .loc L.f, .v (.int (k : Nat)), .v (.int z)] S = .ok (.tup [.v (.str "enters"), .v (.str th)]) S' ∧ FloorAt L (m.enter k v th z) S' := by
  obtain ⟨S', e, h'⟩ := pmoves_ok h hk hn (C := Env.DeskPlace) hp mC_DeskPlace_then (lkKF_then _ _ _ _ _ _ _) hn2 hm hz hz2 z
  refine ⟨S', ?_, h'⟩
  have gf := h.gf
  have gsp := h.gsp
  have gro := h.gro
  have gpo := h.gpo
  have grk := h.grk
  have ggs := h.ggs
  have wh := where_ok h hk
  have q2 : ∀ a b u : D, atI [a, b, u] 2 = some u := fun _ _ _ => rfl
  rw [hu] at wh
  unfold tilD at wh
  simp_arith [g_DeskPlace_moves, den_DeskPlace_moves, dBase, dFldA, dSetFA, dMethL, dMeth, insA, insD, dRGet, rdcD, dctD, keyD, dSt, dDAug, rol, spl, izl, gsl, Sdl, vcell, tilD, dFldAug, gf, lkV1, lkV2, lkV3, lkV4, lkV5, ptV1, ptV2, ptV3, lnV, lkF1, lkF2, lkF3, lkF4, lkF5, lkFa, lkFb, lkFc, lkFd, lkFe, lkFf, lkFg, lkFh, lkFi, lkFj, lkFk, lkFl, lkFm, lkFn, lkFo, lkFp, mC_Place_called, mC_Passing_called, mC_DeskPlace_called, mC_Visitor_called, mC_Passing_then, mC_DeskPlace_then, mC_DeskPlace_hands, mC_DeskPlace_takes, mC_DeskPlace_is_ranked, mC_DeskPlace_rests, mC_DeskPlace_begun, mC_Visitor_since, mC_Visitor_until, mC_Visitor_things, mC_Visitor_grade, mC_Floor_guests, mC_Floor_rows, mC_Floor_spots, mC_Floor_ranks, mC_Floor_pools, lkXF_called, lkXF_then, lkXF_takes, lkXF_hands, lkXF_is_ranked, lkXF_rests, lkXF_begun, lkXF_pool, lkXF_rule, lkXF_goals, lkXF_moved, lkXF_can, lkXF_moves, lkXF_clock, lkXF_change, lkXF_first, lkXF_served, lkXF_rests_at, lkXF_chosen, lkXF_is_open, lnXF, lkDF_called, lkDF_then, lkDF_takes, lkDF_hands, lkDF_is_ranked, lkDF_rests, lkDF_begun, lkDF_pool, lkDF_rule, lkDF_goals, lkDF_moved, lkDF_can, lkDF_moves, lkDF_clock, lkDF_change, lkDF_first, lkDF_served, lkDF_rests_at, lkDF_chosen, lkDF_is_open, lnDF, lkKF_called, lkKF_then, lkKF_takes, lkKF_hands, lkKF_is_ranked, lkKF_rests, lkKF_begun, lkKF_pool, lkKF_rule, lkKF_goals, lkKF_moved, lkKF_can, lkKF_moves, lkKF_clock, lkKF_change, lkKF_first, lkKF_served, lkKF_rests_at, lkKF_chosen, lkKF_is_open, lnKF, L_where_1, List.lookup_cons, beq_self_eq_true, nE_Place_Passing, nE_Place_DeskPlace, nE_Place_Visitor, nE_Place_Floor, nE_Passing_Place, nE_Passing_DeskPlace, nE_Passing_Visitor, nE_Passing_Floor, nE_DeskPlace_Place, nE_DeskPlace_Passing, nE_DeskPlace_Visitor, nE_DeskPlace_Floor, nE_Visitor_Place, nE_Visitor_Passing, nE_Visitor_DeskPlace, nE_Visitor_Floor, nE_Floor_Place, nE_Floor_Passing, nE_Floor_DeskPlace, nE_Floor_Visitor, wh, q2, e]
theorem dmoves_on {L : Lay} {m : Fm} {S : List Cell} (h : FloorAt L m S) {k : Nat} {v : Vz} (hk : m.vis[k]? = some v) (hn : v.called ∈ m.ns) {th : Str} {hd bg : Int} {ts : List Int} {rs : D} {rk : Bool} (hp : m.plc v.called = .ins Env.DeskPlace (KF v.called th hd (.tup (ts.map I)) rk rs bg)) (ht : 1 ≤ ts.length) (z : Int) (hu : v.til = none) : ∃ S', g_DeskPlace_moves [.loc (L.pl v.called), .loc L.f, .v (.int (k : Nat)), .v (.int z)] S = .ok (.tup [.v (.str "begins"), .v (.str v.called)]) S' ∧ FloorAt L ((m.setVis k { v with til := some (z + tkAt ts bg) }).setPl v.called (.ins Env.DeskPlace (KF v.called th hd (.tup (ts.map I)) rk rs (bg + 1)))) S' := by
  obtain ⟨S1, e1, h1⟩ := serve_ok h hk (z + tkAt ts bg)
  have h2 := h1.setPl (n := v.called) hn (.ins Env.DeskPlace (KF v.called th hd (.tup (ts.map I)) rk rs (bg + 1)))
  refine ⟨_, ?_, h2⟩
  have gf := h.gf
  have gsp := h.gsp
  have gro := h.gro
  have gpo := h.gpo
  have grk := h.grk
  have ggs := h.ggs
  have gp := h.gpl hn
  rw [hp] at gp
  have gp1 := h1.gpl (n := v.called) hn
  have ep : (m.setVis k { v with til := some (z + tkAt ts bg) }).plc v.called = m.plc v.called := rfl
  rw [ep, hp] at gp1
  have gp2 := h2.gpl (n := v.called) hn
  have ep2 : ((m.setVis k { v with til := some (z + tkAt ts bg) }).setPl v.called (.ins Env.DeskPlace (KF v.called th hd (.tup (ts.map I)) rk rs (bg + 1)))).plc v.called = .ins Env.DeskPlace (KF v.called th hd (.tup (ts.map I)) rk rs (bg + 1)) := if_pos rfl
  rw [ep2] at gp2
  have wh := where_ok h hk
  have q2 : ∀ a b u : D, atI [a, b, u] 2 = some u := fun _ _ _ => rfl
  rw [hu] at wh
  have tn : tilD none = .v .non := rfl
  rw [tn] at wh
  have ta := tk_at ht bg
  have tl : ((ts.map I).length : Int) = ts.length := by rw [List.length_map]
  have tz : ((ts.length : Int) = 0) = False := eq_false (by omega)
  have pf : putFD "begun" (.v (.int (bg + 1))) (KF v.called th hd (.tup (ts.map I)) rk rs bg) = KF v.called th hd (.tup (ts.map I)) rk rs (bg + 1) := rfl
  generalize tkAt ts bg = tt at *
  generalize (ts.length : Int) = tn at *
  generalize ts.map I = TS at *
  simp_arith [g_DeskPlace_moves, den_DeskPlace_moves, dFldA, dSetFA, dMethL, dMeth, insA, insD, dRGet, rdcD, dctD, keyD, dSt, dDAug, rol, spl, izl, gsl, Sdl, vcell, tilD, dFldAug, gf, lkV1, lkV2, lkV3, lkV4, lkV5, ptV1, ptV2, ptV3, lnV, lkF1, lkF2, lkF3, lkF4, lkF5, lkFa, lkFb, lkFc, lkFd, lkFe, lkFf, lkFg, lkFh, lkFi, lkFj, lkFk, lkFl, lkFm, lkFn, lkFo, lkFp, mC_Place_called, mC_Passing_called, mC_DeskPlace_called, mC_Visitor_called, mC_Passing_then, mC_DeskPlace_then, mC_DeskPlace_hands, mC_DeskPlace_takes, mC_DeskPlace_is_ranked, mC_DeskPlace_rests, mC_DeskPlace_begun, mC_Visitor_since, mC_Visitor_until, mC_Visitor_things, mC_Visitor_grade, mC_Floor_guests, mC_Floor_rows, mC_Floor_spots, mC_Floor_ranks, mC_Floor_pools, lkXF_called, lkXF_then, lkXF_takes, lkXF_hands, lkXF_is_ranked, lkXF_rests, lkXF_begun, lkXF_pool, lkXF_rule, lkXF_goals, lkXF_moved, lkXF_can, lkXF_moves, lkXF_clock, lkXF_change, lkXF_first, lkXF_served, lkXF_rests_at, lkXF_chosen, lkXF_is_open, lnXF, lkDF_called, lkDF_then, lkDF_takes, lkDF_hands, lkDF_is_ranked, lkDF_rests, lkDF_begun, lkDF_pool, lkDF_rule, lkDF_goals, lkDF_moved, lkDF_can, lkDF_moves, lkDF_clock, lkDF_change, lkDF_first, lkDF_served, lkDF_rests_at, lkDF_chosen, lkDF_is_open, lnDF, lkKF_called, lkKF_then, lkKF_takes, lkKF_hands, lkKF_is_ranked, lkKF_rests, lkKF_begun, lkKF_pool, lkKF_rule, lkKF_goals, lkKF_moved, lkKF_can, lkKF_moves, lkKF_clock, lkKF_change, lkKF_first, lkKF_served, lkKF_rests_at, lkKF_chosen, lkKF_is_open, lnKF, L_where_1, L_serve_2, List.lookup_cons, beq_self_eq_true, nE_Place_Passing, nE_Place_DeskPlace, nE_Place_Visitor, nE_Place_Floor, nE_Passing_Place, nE_Passing_DeskPlace, nE_Passing_Visitor, nE_Passing_Floor, nE_DeskPlace_Place, nE_DeskPlace_Passing, nE_DeskPlace_Visitor, nE_DeskPlace_Floor, nE_Visitor_Place, nE_Visitor_Passing, nE_Visitor_DeskPlace, nE_Visitor_Floor, nE_Floor_Place, nE_Floor_Passing, nE_Floor_DeskPlace, nE_Floor_Visitor, wh, q2, gp, ta, tl, tz, e1, gp1, gp2, pf]
theorem ok_DeskPlace_moves (T : Tx K mg Env.Place Env.Passing Env.DeskPlace Env.Visitor Env.Floor Env.cl_DeskPlace_first Env.tl_DeskPlace_first) (h_B_Passing_moves : Okb P w K mg base 2 "Passing" "moves" ["self", "floor", "number", "turn"] g_Passing_moves) (h_M_serve_2 : OkmL P w K mg base 1 L_serve_2 "serve" ["self", "number", "until"]) (h_M_where_1 : OkmL P w K mg base 1 L_where_1 "where" ["self", "number"]) {f : Addr} {fd : FuncData} (F : Fun K "moves" "DeskPlace.moves" sDeskPlace_moves f fd) : FnOk P w K mg base (L2N.CX P w) 3 f fd ["self", "floor", "number", "turn"] (spG K g_DeskPlace_moves) := FnOk.by (raw_DeskPlace_moves T h_B_Passing_moves h_M_serve_2 h_M_where_1 F) eq_DeskPlace_moves
abbrev sFloor_come : Stmt := (inClass (top 14) 1)
abbrev NFloor_come : List Str := ["self", "name", "turn"]
theorem scFloor_come : FnScope NFloor_come ["self", "name", "turn"] (defScope sFloor_come) := ⟨rfl, rfl, rfl, by decide +kernel, rfl, by decide +kernel, by decide +kernel⟩
noncomputable def den_Floor_come : M Fl :=
    (dSeq (dDrop (okD (dApp (okD (dFldA Cs_guests "guests" (dVar 0))) (dMake Env.Visitor g_Visitor___init__ (dCons (dRGet (okD (dFldA Cs_ranks "ranks" (dVar 0))) (dD (dVar 1))) (dCons (dD (dVar 1)) (dCons (dD (dVar 2)) dNil)))))))
    (dSeq (dDrop (okD (dApp (okD (dRGet (okD (dFldA Cs_rows "rows" (dVar 0))) (dD (dVar 1)))) (dOp gSubI (okD (M.bind (okD (dFldA Cs_guests "guests" (dVar 0))) gLen)) (dC (.int 1))))))
    (dRet (dOp gSubI (okD (M.bind (okD (dFldA Cs_guests "guests" (dVar 0))) gLen)) (dC (.int 1))))))
theorem raw_Floor_come (T : Tx K mg Env.Place Env.Passing Env.DeskPlace Env.Visitor Env.Floor Env.cl_DeskPlace_first Env.tl_DeskPlace_first) (h_I_Visitor : Okc P w K mg base 1 "Visitor" Env.Visitor ["self", "rank", "called", "since"] g_Visitor___init__) {f : Addr} {fd : FuncData} (F : Fun K "come" "Floor.come" sFloor_come f fd) : FnOk P w K mg base (L2N.CX P w) 3 f fd ["self", "name", "turn"] (spG K (runD 3 3 den_Floor_come)) := by
  have sc := scFloor_come
  exact fn_ok (N := NFloor_come) F sc rfl (by decide) fun cdv A outer s H E hr => ⟨_, ((bd_cons (sd_expr (DD.e (dd_append (DD.e (dd_fldA (fa_guests T) (ed_var 0))) (dd_make h_I_Visitor (hr.mono (by decide)) (by rfl) (ad_cons (dd_rget (u1 hr) (DD.e (dd_fldA (fa_ranks T) (ed_var 0))) (ED.d (ed_var 1))) (ad_cons (ED.d (ed_var 1)) (ad_cons (ED.d (ed_var 2)) ad_nil)))))))
    (bd_cons (sd_expr (DD.e (dd_append (DD.e (dd_rget (u1 hr) (DD.e (dd_fldA (fa_rows T) (ed_var 0))) (ED.d (ed_var 1)))) (dd_sub (DD.e (dd_b1 bLen (by rfl) T.n_len (by decide +kernel) (DD.e (dd_fldA (fa_guests T) (ed_var 0))))) ed_int))))
    (bd_one (sd_ret (dd_sub (DD.e (dd_b1 bLen (by rfl) T.n_len (by decide +kernel) (DD.e (dd_fldA (fa_guests T) (ed_var 0))))) ed_int))))) : BD _ _ _ _ den_Floor_come)⟩
noncomputable def g_Floor_come : G := runD 3 3 den_Floor_come
theorem eq_Floor_come : ∀ ds S, g_Floor_come ds S ≠ .no → runD 3 3 den_Floor_come ds S = g_Floor_come ds S := fun _ _ _ => rfl
def Fm.come (m : Fm) (a : Nat) (n : Str) (z : Int) : Fm := (m.addVis { q := a, t := a + 1, grade := m.kz n, called := n, since := z, til := none, things := [] }).setRow n (m.rows n ++ [((m.vis.length : Nat) : Int)])
theorem come_ok {L : Lay} {m : Fm} {S : List Cell} (h : FloorAt L m S) {n : Str} (hn : n ∈ m.ns) (hk : n ∈ m.ks) (hl : m.vis.length < 1000) (hz : (m.rows n).length < 1000) (z : Int) : ∃ S', g_Floor_come [.loc L.f, .v (.str n), .v (.int z)] S = .ok (.v (.int (m.vis.length : Nat))) S' ∧ FloorAt L (m.come S.length n z) S' := by
  have h1 := h.addVis (v := { q := S.length, t := S.length + 1, grade := m.kz n, called := n, since := z, til := none, things := [] }) rfl rfl
  have h2 := h1.setRow (n := n) hn (m.rows n ++ [((m.vis.length : Nat) : Int)])
  refine ⟨_, ?_, h2⟩
  have gf := h.gf
  have gsp := h.gsp
  have gro := h.gro
  have gpo := h.gpo
  have grk := h.grk
  have ggs := h.ggs
  have v1 := iz_at (z := m.kz) hk
  have v2 := ro_at (L := L) hn
  have vi := vinit S (m.kz n) n z
  have hp := h.push [vcell { q := S.length, t := S.length + 1, grade := m.kz n, called := n, since := z, til := none, things := [] }, .lst (Sd [])]
  have gg := hp.ggs
  have gf1 := h1.gf
  have gro1 : _ = some (Cell.dct (roD L m.ns)) := h1.gro
  have ggs1 := h1.ggs
  have gr1 : _ = some (Cell.lst ((m.rows n).map I)) := h1.grw (n := n) hn
  have gf2 := h2.gf
  have ggs2 := h2.ggs
  have eg : gsD m.vis ++ [D.loc S.length] = gsD (m.vis ++ [{ q := S.length, t := S.length + 1, grade := m.kz n, called := n, since := z, til := none, things := [] }]) := by
    unfold gsD
    rw [List.map_append]
    rfl
  have e0 : vcell { q := S.length, t := S.length + 1, grade := m.kz n, called := n, since := z, til := none, things := [] } = .ins Env.Visitor (VF (.v (.int (m.kz n))) (.v (.str n)) (.v (.int z)) (.v .non) (.loc (S.length + 1))) := rfl
  have e1 : (Fm.addVis m { q := S.length, t := S.length + 1, grade := m.kz n, called := n, since := z, til := none, things := [] }).vis = m.vis ++ [{ q := S.length, t := S.length + 1, grade := m.kz n, called := n, since := z, til := none, things := [] }] := rfl
  have e2 : (Fm.setRow (Fm.addVis m { q := S.length, t := S.length + 1, grade := m.kz n, called := n, since := z, til := none, things := [] }) n (m.rows n ++ [((m.vis.length : Nat) : Int)])).vis = m.vis ++ [{ q := S.length, t := S.length + 1, grade := m.kz n, called := n, since := z, til := none, things := [] }] := rfl
  have e3 : Sd [] = [] := rfl
  have gl : (gsD (m.vis ++ [{ q := S.length, t := S.length + 1, grade := m.kz n, called := n, since := z, til := none, things := [] }])).length = m.vis.length + 1 := by
    rw [gsl]
    simp
  have sb : ((m.vis.length + 1 : Nat) : Int) - 1 = ((m.vis.length : Nat) : Int) := by omega
  have hl' : m.vis.length < 1000000 := by omega
  have hz' : (m.rows n).length < 1000000 := by omega
  rw [e1] at ggs1
  rw [e2] at ggs2
  rw [e0, e3] at gg gf1 gro1 ggs1 gr1 gf2 ggs2 h2 ⊢
  generalize hG : gsD (m.vis ++ [{ q := S.length, t := S.length + 1, grade := m.kz n, called := n, since := z, til := none, things := [] }]) = GG at *
  simp_arith [g_Floor_come, den_Floor_come, dMake, dFldA, dSetFA, dMethL, dMeth, insA, insD, dRGet, rdcD, dctD, keyD, dSt, dDAug, rol, spl, izl, gsl, Sdl, vcell, tilD, dFldAug, gf, gsp, gro, gpo, grk, ggs, lkV1, lkV2, lkV3, lkV4, lkV5, ptV1, ptV2, ptV3, lnV, lkF1, lkF2, lkF3, lkF4, lkF5, lkFa, lkFb, lkFc, lkFd, lkFe, lkFf, lkFg, lkFh, lkFi, lkFj, lkFk, lkFl, lkFm, lkFn, lkFo, lkFp, mC_Place_called, mC_Passing_called, mC_DeskPlace_called, mC_Visitor_called, mC_Passing_then, mC_DeskPlace_then, mC_DeskPlace_hands, mC_DeskPlace_takes, mC_DeskPlace_is_ranked, mC_DeskPlace_rests, mC_DeskPlace_begun, mC_Visitor_since, mC_Visitor_until, mC_Visitor_things, mC_Visitor_grade, mC_Floor_guests, mC_Floor_rows, mC_Floor_spots, mC_Floor_ranks, mC_Floor_pools, lkXF_called, lkXF_then, lkXF_takes, lkXF_hands, lkXF_is_ranked, lkXF_rests, lkXF_begun, lkXF_pool, lkXF_rule, lkXF_goals, lkXF_moved, lkXF_can, lkXF_moves, lkXF_clock, lkXF_change, lkXF_first, lkXF_served, lkXF_rests_at, lkXF_chosen, lkXF_is_open, lnXF, lkDF_called, lkDF_then, lkDF_takes, lkDF_hands, lkDF_is_ranked, lkDF_rests, lkDF_begun, lkDF_pool, lkDF_rule, lkDF_goals, lkDF_moved, lkDF_can, lkDF_moves, lkDF_clock, lkDF_change, lkDF_first, lkDF_served, lkDF_rests_at, lkDF_chosen, lkDF_is_open, lnDF, lkKF_called, lkKF_then, lkKF_takes, lkKF_hands, lkKF_is_ranked, lkKF_rests, lkKF_begun, lkKF_pool, lkKF_rule, lkKF_goals, lkKF_moved, lkKF_can, lkKF_moves, lkKF_clock, lkKF_change, lkKF_first, lkKF_served, lkKF_rests_at, lkKF_chosen, lkKF_is_open, lnKF, v1, v2, vi, gg, eg, gf1, gro1, ggs1, gr1, gf2, ggs2, gl, sb, hl', hz', app_int, List.length_map]
theorem ok_Floor_come (T : Tx K mg Env.Place Env.Passing Env.DeskPlace Env.Visitor Env.Floor Env.cl_DeskPlace_first Env.tl_DeskPlace_first) (h_I_Visitor : Okc P w K mg base 1 "Visitor" Env.Visitor ["self", "rank", "called", "since"] g_Visitor___init__) {f : Addr} {fd : FuncData} (F : Fun K "come" "Floor.come" sFloor_come f fd) : FnOk P w K mg base (L2N.CX P w) 3 f fd ["self", "name", "turn"] (spG K g_Floor_come) := FnOk.by (raw_Floor_come T h_I_Visitor F) eq_Floor_come
abbrev slaw_changed : Stmt := (top 26)
abbrev Nlaw_changed : List Str := ["_law_floor", "_law_own", "_law_mixed_here", "_law_desk_here", "_law_change"]
theorem sclaw_changed : FnScope Nlaw_changed ["_law_floor", "_law_own", "_law_mixed_here"] (defScope slaw_changed) := ⟨rfl, rfl, rfl, by decide +kernel, rfl, by decide +kernel, by decide +kernel⟩
noncomputable def den_law_changed : M Fl :=
    (dSeq (dSet 3 (dRGet (dVar 1) (dD (dC (.str "desk")))))
    (dSeq (dIfS (dCmpT (gEq false) (okD (dOp gMod (dVar 2) (dC (.int 2)))) (dC (.int 0))) (dSeq (dSet 4 (dTup (dCons (dD (dC (.str "hands"))) (dCons (dOp gIx (dVar 3) (dC (.int 1))) (dCons (dOp gAdd (dC (.int 1)) (okD (dOp gMod (okD (dOp gDiv (dVar 2) (dC (.int 2)))) (dC (.int 4))))) dNil)))))
    (dDPut (dOp gCat3 (okD (dOp gCat3 (okD (dSlD (dVar 3) (M.pure none) (M.bind (dC (.int 2)) gPart))) (okD (dTup (dCons (dOp gIx (dVar 4) (dC (.int 2))) dNil))))) (okD (dSlD (dVar 3) (M.bind (dC (.int 3)) gPart) (M.pure none)))) (dVar 1) (dD (dC (.str "desk"))))) (dSeq (dSet 4 (dTup (dCons (dD (dC (.str "takes"))) (dCons (dOp gIx (dVar 3) (dC (.int 1))) (dCons (dSlD (okD (dTup (dCons (dOp gAdd (dC (.int 1)) (okD (dOp gMod (okD (dOp gDiv (dVar 2) (dC (.int 2)))) (dC (.int 5))))) (dCons (dOp gAdd (dC (.int 1)) (okD (dOp gMod (okD (dOp gDiv (dVar 2) (dC (.int 10)))) (dC (.int 3))))) dNil)))) (M.pure none) (M.bind (okD (dOp gAdd (dC (.int 1)) (okD (dOp gMod (okD (dOp gDiv (dVar 2) (dC (.int 30)))) (dC (.int 2)))))) gPart)) dNil)))))
    (dDPut (dOp gCat3 (okD (dOp gCat3 (okD (dSlD (dVar 3) (M.pure none) (M.bind (dC (.int 3)) gPart))) (okD (dTup (dCons (dOp gIx (dVar 4) (dC (.int 2))) dNil))))) (okD (dSlD (dVar 3) (M.bind (dC (.int 4)) gPart) (M.pure none)))) (dVar 1) (dD (dC (.str "desk"))))))
    (dRet (dOp (gNone false) (okD (dMethL L_change_1_F "change" (dVar 0) (dCons (dD (dVar 4)) dNil))) (dC .non)))))
theorem raw_law_changed (T : Tx K mg Env.Place Env.Passing Env.DeskPlace Env.Visitor Env.Floor Env.cl_DeskPlace_first Env.tl_DeskPlace_first) (h_M_change_1_F : OkmL P w K mg base 2 L_change_1_F "change" ["self", "change"]) : Okf P w K mg base 3 "_law_changed" ["_law_floor", "_law_own", "_law_mixed_here"] (runD 5 3 den_law_changed) := by
  have sc := sclaw_changed
  exact ok_has (N := Nlaw_changed) T.d_law_changed sc rfl (by decide) fun f cdv A outer s H E hr => ⟨_, ((bd_cons (sd_set (i := 3) sc.nd rfl (by first | exact Or.inl rfl | exact Or.inr rfl) (dd_rget (u1 hr) (ed_var 1) (ED.d ed_str)))
    (bd_cons (sd_if (td_cmp (cEq hr.units) (DD.e (dd_mod (ed_var 2) ed_int)) ed_int (nomark _)) (bd_cons (sd_set (i := 4) sc.nd rfl (by first | exact Or.inl rfl | exact Or.inr rfl) (dd_tup (ad_cons (ED.d ed_str) (ad_cons (dd_ix (ed_var 3) ed_int (fun _ _ => rfl)) (ad_cons (dd_add ed_int (DD.e (dd_mod (DD.e (dd_div (ed_var 2) ed_int)) ed_int))) ad_nil)))))
    (bd_one (sd_dput (u1 hr) (ed_var 1) (ED.d ed_str) (dd_cat3 (DD.e (dd_cat3 (DD.e (dd_sl (ed_var 3) od_none (od_some ed_int))) (DD.e (dd_tup (ad_cons (dd_ix (ed_var 4) ed_int (fun _ _ => rfl)) ad_nil))))) (DD.e (dd_sl (ed_var 3) (od_some ed_int) od_none)))))) (bd_cons (sd_set (i := 4) sc.nd rfl (by first | exact Or.inl rfl | exact Or.inr rfl) (dd_tup (ad_cons (ED.d ed_str) (ad_cons (dd_ix (ed_var 3) ed_int (fun _ _ => rfl)) (ad_cons (dd_sl (DD.e (dd_tup (ad_cons (dd_add ed_int (DD.e (dd_mod (DD.e (dd_div (ed_var 2) ed_int)) ed_int))) (ad_cons (dd_add ed_int (DD.e (dd_mod (DD.e (dd_div (ed_var 2) ed_int)) ed_int))) ad_nil)))) od_none (od_some (DD.e (dd_add ed_int (DD.e (dd_mod (DD.e (dd_div (ed_var 2) ed_int)) ed_int)))))) ad_nil)))))
    (bd_one (sd_dput (u1 hr) (ed_var 1) (ED.d ed_str) (dd_cat3 (DD.e (dd_cat3 (DD.e (dd_sl (ed_var 3) od_none (od_some ed_int))) (DD.e (dd_tup (ad_cons (dd_ix (ed_var 4) ed_int (fun _ _ => rfl)) ad_nil))))) (DD.e (dd_sl (ed_var 3) (od_some ed_int) od_none)))))))
    (bd_one (sd_ret (dd_cmp cIs (DD.e (dd_methL h_M_change_1_F (hr.mono (by decide)) (ed_var 0) (ad_cons (ED.d (ed_var 4)) ad_nil))) ed_non (nomark _)))))) : BD _ _ _ _ den_law_changed)⟩
noncomputable def g_law_changed : G := runD 5 3 den_law_changed
theorem eq_law_changed : ∀ ds S, g_law_changed ds S ≠ .no → runD 5 3 den_law_changed ds S = g_law_changed ds S := fun _ _ _ => rfl
theorem ok_law_changed (T : Tx K mg Env.Place Env.Passing Env.DeskPlace Env.Visitor Env.Floor Env.cl_DeskPlace_first Env.tl_DeskPlace_first) (h_M_change_1_F : OkmL P w K mg base 2 L_change_1_F "change" ["self", "change"]) : Okf P w K mg base 3 "_law_changed" ["_law_floor", "_law_own", "_law_mixed_here"] g_law_changed := (raw_law_changed T h_M_change_1_F).by eq_law_changed
theorem ok_I_DeskPlace (T : Tx K mg Env.Place Env.Passing Env.DeskPlace Env.Visitor Env.Floor Env.cl_DeskPlace_first Env.tl_DeskPlace_first) (h_B_Passing___init__ : Okb P w K mg base 2 "Passing" "__init__" ["self", "told"] g_Passing___init__) : Okc P w K mg base 3 "DeskPlace" Env.DeskPlace ["self", "told"] g_DeskPlace___init__ := okc_of T.i_DeskPlace (by decide) fun F => ok_DeskPlace___init__ T h_B_Passing___init__ F
noncomputable def L_come_2 : List (Addr × G) := [(Env.Floor, g_Floor_come)]
theorem ok_M_come_2 (T : Tx K mg Env.Place Env.Passing Env.DeskPlace Env.Visitor Env.Floor Env.cl_DeskPlace_first Env.tl_DeskPlace_first) (h_I_Visitor : Okc P w K mg base 1 "Visitor" Env.Visitor ["self", "rank", "called", "since"] g_Visitor___init__) : OkmL P w K mg base 3 L_come_2 "come" ["self", "name", "turn"] := fun p hp => by
  simp only [L_come_2, List.mem_cons, List.not_mem_nil, or_false] at hp
  rcases hp with rfl
  · exact ⟨okm_of T.m_Floor_come_2 (by decide) fun F => ok_Floor_come T h_I_Visitor F, T.c_Floor⟩
noncomputable def L_moves_3 : List (Addr × G) := [(Env.Place, g_Place_moves), (Env.Passing, g_Passing_moves), (Env.DeskPlace, g_DeskPlace_moves)]
theorem ok_M_moves_3 (T : Tx K mg Env.Place Env.Passing Env.DeskPlace Env.Visitor Env.Floor Env.cl_DeskPlace_first Env.tl_DeskPlace_first) (h_B_Passing_moves : Okb P w K mg base 2 "Passing" "moves" ["self", "floor", "number", "turn"] g_Passing_moves) (h_M_enter_3 : OkmL P w K mg base 1 L_enter_3 "enter" ["self", "number", "name", "turn"]) (h_M_serve_2 : OkmL P w K mg base 1 L_serve_2 "serve" ["self", "number", "until"]) (h_M_where_1 : OkmL P w K mg base 1 L_where_1 "where" ["self", "number"]) : OkmL P w K mg base 3 L_moves_3 "moves" ["self", "floor", "number", "turn"] := fun p hp => by
  simp only [L_moves_3, List.mem_cons, List.not_mem_nil, or_false] at hp
  rcases hp with rfl | rfl | rfl
  · exact ⟨okm_of T.m_Place_moves_3 (by decide) fun F => ok_Place_moves T  F, T.c_Place⟩
  · exact ⟨okm_of T.m_Passing_moves_3 (by decide) fun F => ok_Passing_moves T h_M_enter_3 F, T.c_Passing⟩
  · exact ⟨okm_of T.m_DeskPlace_moves_3 (by decide) fun F => ok_DeskPlace_moves T h_B_Passing_moves h_M_serve_2 h_M_where_1 F, T.c_DeskPlace⟩
abbrev sDeskPlace_first : Stmt := (inClass (top 5) 1)
abbrev NDeskPlace_first : List Str := ["self", "floor", "some", "number"]
theorem scDeskPlace_first : FnScope NDeskPlace_first ["self", "floor"] (defScope sDeskPlace_first) := ⟨rfl, rfl, rfl, by decide +kernel, rfl, by decide +kernel, by decide +kernel⟩
noncomputable def lDeskPlace_first1e : M D :=
    (dTup (dCons (dMethL L_rank_1 "rank" (dVar 1) (dCons (dD (dVar 0)) dNil)) (dCons (dOp gSubI (dC (.int 0)) (okD (dIdx (dVar 2) (dD (dVar 0))))) dNil)))
noncomputable def cDeskPlace_first1e : M D :=
    (dD (dVar 3))
noncomputable def cDeskPlace_first1t : M Bool :=
    (dCmpT (gNone false) (okD (dOp gIx (okD (dMethL L_where_1 "where" (dVar 1) (dCons (dD (dVar 3)) dNil))) (dC (.int 2)))) (dC .non))
noncomputable def den_DeskPlace_first : M Fl :=
    (dSeq (dSetN 2 (dLcA (dMethL L_at_1 "at" (dVar 1) (dCons (dFldA Cs_called "called" (dVar 0)) dNil)) (dName 3) cDeskPlace_first1t cDeskPlace_first1e [3]))
    (dSeq (dIfS (dCmpT (gEq false) (dVar 2) (okN (dLst dNil))) (dRet (dD (dC .non))) dNx)
    (dSeq (dIfS (dTru (okD (dFldA Cs_is_ranked "is_ranked" (dVar 0)))) (dRet (dKeyB true 3 [1, 2] lDeskPlace_first1e (dCons (dD (dVar 2)) dNil))) dNx)
    (dRet (dOp gIx (dVar 2) (dC (.int 0)))))))
theorem raw_DeskPlace_first (T : Tx K mg Env.Place Env.Passing Env.DeskPlace Env.Visitor Env.Floor Env.cl_DeskPlace_first Env.tl_DeskPlace_first) (h_M_at_1 : OkmL P w K mg base 1 L_at_1 "at" ["self", "name"]) (h_M_rank_1 : OkmL P w K mg base 1 L_rank_1 "rank" ["self", "number"]) (h_M_where_1 : OkmL P w K mg base 1 L_where_1 "where" ["self", "number"]) (h_T_DeskPlace_first : LamX.TabB base mg Env.cl_DeskPlace_first Env.tl_DeskPlace_first) {f : Addr} {fd : FuncData} (F : Fun K "first" "DeskPlace.first" sDeskPlace_first f fd) : FnOk P w K mg base (L2N.CX P w) 4 f fd ["self", "floor"] (spG K (runD 4 2 den_DeskPlace_first)) := by
  have sc := scDeskPlace_first
  exact fn_okC (N := NDeskPlace_first) F T.lam_DeskPlace_first sc rfl (by decide) fun A outer s H E hr => ⟨_, ((bd_cons (sd_setN (i := 2) sc.nd rfl (by first | exact Or.inl rfl | exact Or.inr rfl) (en_lcA (own := [("number", 3)]) (W' := W0) rfl sc.nd (dd_methL h_M_at_1 (hr.mono (by decide)) (ed_var 1) (ad_cons (dd_fldA (fa_called T) (ed_var 0)) ad_nil)) (blkOk_by (N := NDeskPlace_first) (sc := defScope sDeskPlace_first) (by decide +kernel)) (fun _ _ _ _ _ => (gd_name (i := 3) sc.nd rfl (by first | exact Or.inl rfl | exact Or.inr rfl))) (fun _ _ _ _ _ => (tsd_one (td_cmp cIs (DD.e (dd_ix (DD.e (dd_methL h_M_where_1 (hr.mono (by decide)) (ed_var 1) (ad_cons (ED.d (ed_var 3)) ad_nil))) ed_int (fun _ _ => rfl))) ed_non (nomark _)))) (fun _ _ _ _ _ => (ED.d (ed_var 3)))))
    (bd_cons (sd_if (td_cmp (cEq hr.units) (ed_var 2) (EN.e (en_lst ad_nil)) (nomark _)) (bd_one (sd_ret (ED.d ed_non))) bd_nil)
    (bd_cons (sd_if (td_val (DD.e (dd_fldA (fa_is_ranked T) (ed_var 0)))) (bd_one (sd_ret (dd_keyMax (N := ["number", "floor", "some"]) (fr := ["floor", "some"]) (p := "number") (js := [1, 2]) (k := 1) (c := Env.cl_DeskPlace_first) (P := Env.tl_DeskPlace_first) (de := lDeskPlace_first1e) (hr.mono (by decide)) (by exact ⟨h_T_DeskPlace_first, rfl, mem_DeskPlace_first, one_DeskPlace_first, rfl, lamfree_by (sc0 := defScope sDeskPlace_first) (by decide +kernel), lamfr_by (by decide +kernel), rfl, NdefX.nscope_by (by decide +kernel), (fun _ _ _ us hl => match us, hl with | [_], _ => rfl), fun f c' A outer s H E hr => ⟨_, (dd_tup (ad_cons (dd_methL h_M_rank_1 (hr.mono (by decide)) (ed_var 1) (ad_cons (ED.d (ed_var 0)) ad_nil)) (ad_cons (dd_sub ed_int (DD.e (dd_idxL (ed_var 2) (ED.d (ed_var 0))))) ad_nil)))⟩⟩) (by rfl) T.n_max (by decide +kernel) (ad_cons (ED.d (ed_var 2)) ad_nil)))) bd_nil)
    (bd_one (sd_ret (dd_ix (ed_var 2) ed_int (fun _ _ => rfl))))))) : BD _ _ _ _ den_DeskPlace_first)⟩
noncomputable def g_DeskPlace_first : G := runD 4 2 den_DeskPlace_first
theorem eq_DeskPlace_first : ∀ ds S, g_DeskPlace_first ds S ≠ .no → runD 4 2 den_DeskPlace_first ds S = g_DeskPlace_first ds S := fun _ _ _ => rfl
theorem rank_x {L : Lay} {m : Fm} {S : List Cell} (h : FloorAt L m S) {x : Int} (hx : ∃ (k : Nat) (v : Vz), x = ((k : Nat) : Int) ∧ m.vis[k]? = some v) : g_Floor_rank [.loc L.f, .v (.int x)] S = .ok (.v (.int (grd m x))) S := by
  obtain ⟨k, v, rfl, hk⟩ := hx
  have e : grd m (k : Nat) = v.grade := by
    unfold grd
    rw [Int.toNat_natCast, hk]
  rw [e]
  exact rank_ok h hk
theorem key_one {L : Lay} {m : Fm} {S : List Cell} (h : FloorAt L m S) {W : List Int} {x : Int} (hx : ∃ (k : Nat) (v : Vz), x = ((k : Nat) : Int) ∧ m.vis[k]? = some v) (hw : x ∈ W) : lamG 3 lDeskPlace_first1e [I x, .loc L.f, .lst (W.map I)] S = .ok (pairD (grd m x, 0 - (W.idxOf x : Int))) S := by
  have gf := h.gf
  have r := rank_x h hx
  have v := vsD_ints W
  have ix := idxV_ints x hw
  have ev : (W.map I).map (fun d => d) = W.map I := List.map_id _
  unfold lamG pairD
  have fl : flatV (V.int x) = true := rfl
  generalize W.map I = WI at *
  simp_arith [lDeskPlace_first1e, dIdx, dFldA, dSetFA, dMethL, dMeth, insA, insD, dRGet, rdcD, dctD, keyD, dSt, dDAug, rol, spl, izl, gsl, Sdl, vcell, tilD, dFldAug, lkV1, lkV2, lkV3, lkV4, lkV5, ptV1, ptV2, ptV3, lnV, lkF1, lkF2, lkF3, lkF4, lkF5, lkFa, lkFb, lkFc, lkFd, lkFe, lkFf, lkFg, lkFh, lkFi, lkFj, lkFk, lkFl, lkFm, lkFn, lkFo, lkFp, mC_Place_called, mC_Passing_called, mC_DeskPlace_called, mC_Visitor_called, mC_Passing_then, mC_DeskPlace_then, mC_DeskPlace_hands, mC_DeskPlace_takes, mC_DeskPlace_is_ranked, mC_DeskPlace_rests, mC_DeskPlace_begun, mC_Visitor_since, mC_Visitor_until, mC_Visitor_things, mC_Visitor_grade, mC_Floor_guests, mC_Floor_rows, mC_Floor_spots, mC_Floor_ranks, mC_Floor_pools, lkXF_called, lkXF_then, lkXF_takes, lkXF_hands, lkXF_is_ranked, lkXF_rests, lkXF_begun, lkXF_pool, lkXF_rule, lkXF_goals, lkXF_moved, lkXF_can, lkXF_moves, lkXF_clock, lkXF_change, lkXF_first, lkXF_served, lkXF_rests_at, lkXF_chosen, lkXF_is_open, lnXF, lkDF_called, lkDF_then, lkDF_takes, lkDF_hands, lkDF_is_ranked, lkDF_rests, lkDF_begun, lkDF_pool, lkDF_rule, lkDF_goals, lkDF_moved, lkDF_can, lkDF_moves, lkDF_clock, lkDF_change, lkDF_first, lkDF_served, lkDF_rests_at, lkDF_chosen, lkDF_is_open, lnDF, lkKF_called, lkKF_then, lkKF_takes, lkKF_hands, lkKF_is_ranked, lkKF_rests, lkKF_begun, lkKF_pool, lkKF_rule, lkKF_goals, lkKF_moved, lkKF_can, lkKF_moves, lkKF_clock, lkKF_change, lkKF_first, lkKF_served, lkKF_rests_at, lkKF_chosen, lkKF_is_open, lnKF, L_rank_1, List.lookup_cons, beq_self_eq_true, nE_Place_Passing, nE_Place_DeskPlace, nE_Place_Visitor, nE_Place_Floor, nE_Passing_Place, nE_Passing_DeskPlace, nE_Passing_Visitor, nE_Passing_Floor, nE_DeskPlace_Place, nE_DeskPlace_Passing, nE_DeskPlace_Visitor, nE_DeskPlace_Floor, nE_Visitor_Place, nE_Visitor_Passing, nE_Visitor_DeskPlace, nE_Visitor_Floor, nE_Floor_Place, nE_Floor_Passing, nE_Floor_DeskPlace, nE_Floor_Visitor, gf, r, v, ix, fl, -vsD]
theorem key_run {L : Lay} {m : Fm} {S : List Cell} (h : FloorAt L m S) {x : Int} {r : List Int} (nd : (x :: r).Nodup) (hv : ∀ y ∈ x :: r, ∃ (k : Nat) (v : Vz), y = ((k : Nat) : Int) ∧ m.vis[k]? = some v) (s0 s3 : Slot) : keyRun true 3 [1, 2] lDeskPlace_first1e (.lst ((x :: r).map I)) ⟨[s0, .d (.loc L.f), .d (.lst ((x :: r).map I)), s3], S⟩ = .ok (I (mxG (grd m) x r)) ⟨[s0, .d (.loc L.f), .d (.lst ((x :: r).map I)), s3], S⟩ := by
  obtain ⟨W, hW⟩ : ∃ W, x :: r = W := ⟨_, rfl⟩
  have k0 := key_one (W := W) h (hv x List.mem_cons_self) (by rw [← hW]; exact List.mem_cons_self)
  have km : ∀ d ∈ r.map I, lamG 3 lDeskPlace_first1e (d :: [.loc L.f, .lst (W.map I)]) S = .ok ((fun d => match d with | D.v (.int y) => pairD (grd m y, 0 - (W.idxOf y : Int)) | d => d) d) S := fun d hd => by
    obtain ⟨y, hy, rfl⟩ := List.mem_map.mp hd
    exact key_one (W := W) h (hv y (List.mem_cons_of_mem _ hy)) (by rw [← hW]; exact List.mem_cons_of_mem _ hy)
  have mk := mapK_const km
  have pw := idx_pw nd
  rw [hW] at pw
  have pw2 := pw
  rw [← hW] at pw2
  obtain ⟨p1, p2⟩ := List.pairwise_cons.mp pw2
  rw [hW] at p1 p2
  have bm := best_mxG (grd m) (fun y => W.idxOf y) r x p1 p2
  have bk := bestK_pairs true (r.map fun y => (D.v (.int y), (grd m y, 0 - (W.idxOf y : Int)))) (D.v (.int x), (grd m x, 0 - (W.idxOf x : Int)))
  rw [bm] at bk
  have zp : (r.map I).zip ((r.map I).map (fun d => match d with | D.v (.int y) => pairD (grd m y, 0 - (W.idxOf y : Int)) | d => d)) = (r.map fun y => (D.v (.int y), (grd m y, 0 - (W.idxOf y : Int)))).map fun p => (p.1, pairD p.2) := by
    rw [List.map_map, List.map_map, List.zip_map']
    rfl
  rw [hW]
  unfold keyRun
  rw [← hW, List.map_cons]
  rw [← List.map_cons (f := I), hW]
  have sf : seqF (.lst (W.map I)) = some (false, W.map I) := rfl
  rw [sf]
  have wm : W.map I = I x :: r.map I := by rw [← hW]; rfl
  have cd : captD ⟨[s0, .d (.loc L.f), .d (.lst (W.map I)), s3], S⟩ [1, 2] = some [.loc L.f, .lst (W.map I)] := rfl
  rw [cd]
  conv => lhs; rw [wm]
  dsimp only
  rw [← wm, if_pos (show 1 + [D.loc L.f, D.lst (W.map I)].length ≤ 3 from Nat.le_refl 3), k0]
  dsimp only
  rw [pyD_pair]
  dsimp only
  rw [mk]
  dsimp only
  rw [zp]
  dsimp only at bk
  rw [bk]
theorem first_ok {L : Lay} {m : Fm} {S : List Cell} (h : FloorAt L m S) {n : Str} (hn : n ∈ m.ns) (hr : RowIn m n) (nd : (m.rows n).Nodup) (hz : (m.rows n).length ≤ 1000) {th : Str} {hd bg : Int} {tk rs : D} {rk : Bool} (hp : m.plc n = .ins Env.DeskPlace (KF n th hd tk rk rs bg)) : g_DeskPlace_first [.loc (L.pl n), .loc L.f] S = .ok (fstD (fstL m n rk)) (S ++ [.lst ((m.rows n).map I)]) := by
  have gf := h.gf
  have gsp := h.gsp
  have gro := h.gro
  have gpo := h.gpo
  have grk := h.grk
  have ggs := h.ggs
  have gp := h.gpl hn
  rw [hp] at gp
  have a := at_ok h hn
  have h1 := h.push [.lst ((m.rows n).map I)]
  have gf1 := h1.gf
  have gp1 := h1.gpl hn
  rw [hp] at gp1
  have gl : (S ++ [Cell.lst ((m.rows n).map I)])[S.length]? = some (.lst ((m.rows n).map I)) := tl_get S _
  have e := fun r0 => itLG_enc (dg := dName 3) (dt := cDeskPlace_first1t) (de := cDeskPlace_first1e) (vs := [3]) (r0 := r0) (w := [.d (.loc (L.pl n)), .d (.loc L.f), .no, .no]) (S := S ++ [.lst ((m.rows n).map I)]) (enc := I) (p := tilW m) (f := I) gl (m.rows n) [] ⟨[.d (.loc (L.pl n)), .d (.loc L.f), .no, .no], S ++ [.lst ((m.rows n).map I)]⟩ rfl rfl (by simp; omega) (fun x hx => by
    obtain ⟨c, s, u, e1, e2⟩ := where_x h1 (n := n) hr hx
    have e1 : tilW m x = u.isNone := e1
    refine ⟨⟨[.d (.loc (L.pl n)), .d (.loc L.f), .no, .d (.v (.int x))], S ++ [.lst ((m.rows n).map I)]⟩, rfl, ⟨[.d (.loc (L.pl n)), .d (.loc L.f), .no, .d (.v (.int x))], S ++ [.lst ((m.rows n).map I)]⟩, ?_, rfl, rfl, fun _ => ⟨⟨[.d (.loc (L.pl n)), .d (.loc L.f), .no, .d (.v (.int x))], S ++ [.lst ((m.rows n).map I)]⟩, rfl, rfl, rfl⟩⟩
    have q : atI [D.v (V.str c), D.v (V.int s), tilD u] 2 = some (tilD u) := rfl
    have t := fun c => gNone_til false u c
    generalize tilD u = tu at *
    rw [e1]
    generalize (m.rows n).map I = R at *
    simp_arith [cDeskPlace_first1t, dFldA, dSetFA, dMethL, dMeth, insA, insD, dRGet, rdcD, dctD, keyD, dSt, dDAug, rol, spl, izl, gsl, Sdl, vcell, tilD, dFldAug, gf1, lkV1, lkV2, lkV3, lkV4, lkV5, ptV1, ptV2, ptV3, lnV, lkF1, lkF2, lkF3, lkF4, lkF5, lkFa, lkFb, lkFc, lkFd, lkFe, lkFf, lkFg, lkFh, lkFi, lkFj, lkFk, lkFl, lkFm, lkFn, lkFo, lkFp, mC_Place_called, mC_Passing_called, mC_DeskPlace_called, mC_Visitor_called, mC_Passing_then, mC_DeskPlace_then, mC_DeskPlace_hands, mC_DeskPlace_takes, mC_DeskPlace_is_ranked, mC_DeskPlace_rests, mC_DeskPlace_begun, mC_Visitor_since, mC_Visitor_until, mC_Visitor_things, mC_Visitor_grade, mC_Floor_guests, mC_Floor_rows, mC_Floor_spots, mC_Floor_ranks, mC_Floor_pools, lkXF_called, lkXF_then, lkXF_takes, lkXF_hands, lkXF_is_ranked, lkXF_rests, lkXF_begun, lkXF_pool, lkXF_rule, lkXF_goals, lkXF_moved, lkXF_can, lkXF_moves, lkXF_clock, lkXF_change, lkXF_first, lkXF_served, lkXF_rests_at, lkXF_chosen, lkXF_is_open, lnXF, lkDF_called, lkDF_then, lkDF_takes, lkDF_hands, lkDF_is_ranked, lkDF_rests, lkDF_begun, lkDF_pool, lkDF_rule, lkDF_goals, lkDF_moved, lkDF_can, lkDF_moves, lkDF_clock, lkDF_change, lkDF_first, lkDF_served, lkDF_rests_at, lkDF_chosen, lkDF_is_open, lnDF, lkKF_called, lkKF_then, lkKF_takes, lkKF_hands, lkKF_is_ranked, lkKF_rests, lkKF_begun, lkKF_pool, lkKF_rule, lkKF_goals, lkKF_moved, lkKF_can, lkKF_moves, lkKF_clock, lkKF_change, lkKF_first, lkKF_served, lkKF_rests_at, lkKF_chosen, lkKF_is_open, lnKF, L_where_1, List.lookup_cons, beq_self_eq_true, nE_Place_Passing, nE_Place_DeskPlace, nE_Place_Visitor, nE_Place_Floor, nE_Passing_Place, nE_Passing_DeskPlace, nE_Passing_Visitor, nE_Passing_Floor, nE_DeskPlace_Place, nE_DeskPlace_Passing, nE_DeskPlace_Visitor, nE_DeskPlace_Floor, nE_Visitor_Place, nE_Visitor_Passing, nE_Visitor_DeskPlace, nE_Visitor_Floor, nE_Floor_Place, nE_Floor_Passing, nE_Floor_DeskPlace, nE_Floor_Visitor, e2, q, t, -gNone])
  have ef : (m.rows n).filter (tilW m) = waitL m n := rfl
  rw [ef] at e
  have hq : ∀ c, gEq false (.d (.lst ((waitL m n).map I))) (.d (.lst [])) c = .ok (.v (.bl (decide (waitL m n = [])))) c := fun c => gEq_ints (neg := false) (ns := waitL m n) (ms := []) (c := c)
  have wv : ∀ y ∈ waitL m n, ∃ (k : Nat) (v : Vz), y = ((k : Nat) : Int) ∧ m.vis[k]? = some v := fun y hy => hr y (List.mem_filter.mp hy).1
  have wnd : (waitL m n).Nodup := nd.filter _
  simp only [List.nil_append] at e
  cases hw : waitL m n with
  | nil =>
    rw [hw] at e hq
    have fe : fstL m n rk = none := by unfold fstL; rw [hw]
    rw [fe]
    have hq2 : decide (([] : List Int) = []) = true := rfl
    rw [hq2] at hq
    rw [List.map_nil] at e hq
    generalize (m.rows n).map I = R at *
    simp_arith [g_DeskPlace_first, den_DeskPlace_first, dLcA, dLcX, fstD, dFldA, dSetFA, dMethL, dMeth, insA, insD, dRGet, rdcD, dctD, keyD, dSt, dDAug, rol, spl, izl, gsl, Sdl, vcell, tilD, dFldAug, gf, gsp, gro, gpo, grk, ggs, lkV1, lkV2, lkV3, lkV4, lkV5, ptV1, ptV2, ptV3, lnV, lkF1, lkF2, lkF3, lkF4, lkF5, lkFa, lkFb, lkFc, lkFd, lkFe, lkFf, lkFg, lkFh, lkFi, lkFj, lkFk, lkFl, lkFm, lkFn, lkFo, lkFp, mC_Place_called, mC_Passing_called, mC_DeskPlace_called, mC_Visitor_called, mC_Passing_then, mC_DeskPlace_then, mC_DeskPlace_hands, mC_DeskPlace_takes, mC_DeskPlace_is_ranked, mC_DeskPlace_rests, mC_DeskPlace_begun, mC_Visitor_since, mC_Visitor_until, mC_Visitor_things, mC_Visitor_grade, mC_Floor_guests, mC_Floor_rows, mC_Floor_spots, mC_Floor_ranks, mC_Floor_pools, lkXF_called, lkXF_then, lkXF_takes, lkXF_hands, lkXF_is_ranked, lkXF_rests, lkXF_begun, lkXF_pool, lkXF_rule, lkXF_goals, lkXF_moved, lkXF_can, lkXF_moves, lkXF_clock, lkXF_change, lkXF_first, lkXF_served, lkXF_rests_at, lkXF_chosen, lkXF_is_open, lnXF, lkDF_called, lkDF_then, lkDF_takes, lkDF_hands, lkDF_is_ranked, lkDF_rests, lkDF_begun, lkDF_pool, lkDF_rule, lkDF_goals, lkDF_moved, lkDF_can, lkDF_moves, lkDF_clock, lkDF_change, lkDF_first, lkDF_served, lkDF_rests_at, lkDF_chosen, lkDF_is_open, lnDF, lkKF_called, lkKF_then, lkKF_takes, lkKF_hands, lkKF_is_ranked, lkKF_rests, lkKF_begun, lkKF_pool, lkKF_rule, lkKF_goals, lkKF_moved, lkKF_can, lkKF_moves, lkKF_clock, lkKF_change, lkKF_first, lkKF_served, lkKF_rests_at, lkKF_chosen, lkKF_is_open, lnKF, L_at_1, List.lookup_cons, beq_self_eq_true, nE_Place_Passing, nE_Place_DeskPlace, nE_Place_Visitor, nE_Place_Floor, nE_Passing_Place, nE_Passing_DeskPlace, nE_Passing_Visitor, nE_Passing_Floor, nE_DeskPlace_Place, nE_DeskPlace_Passing, nE_DeskPlace_Visitor, nE_DeskPlace_Floor, nE_Visitor_Place, nE_Visitor_Passing, nE_Visitor_DeskPlace, nE_Visitor_Floor, nE_Floor_Place, nE_Floor_Passing, nE_Floor_DeskPlace, nE_Floor_Visitor, gp, a, gl, e, hq, -gEq_pair, -gEq_ints, -itL]
  | cons x r =>
    rw [hw] at e hq wv wnd
    have fe : fstL m n rk = some (if rk then mxG (grd m) x r else x) := by unfold fstL; rw [hw]
    rw [fe]
    have hq2 : decide ((x :: r) = []) = false := rfl
    rw [hq2] at hq
    have kr := fun s0 s3 => key_run (m := m) h1 wnd wv s0 s3
    have a0 : atI ((x :: r).map I) 0 = some (I x) := atI_nat (j := 0) (xs := (x :: r).map I) rfl
    cases rk with
    | true =>
      generalize mxG (grd m) x r = best at *
      generalize (x :: r).map I = WI at *
      generalize (m.rows n).map I = R at *
      simp_arith [g_DeskPlace_first, den_DeskPlace_first, dKeyB, dLcA, dLcX, fstD, dFldA, dSetFA, dMethL, dMeth, insA, insD, dRGet, rdcD, dctD, keyD, dSt, dDAug, rol, spl, izl, gsl, Sdl, vcell, tilD, dFldAug, gf, gsp, gro, gpo, grk, ggs, lkV1, lkV2, lkV3, lkV4, lkV5, ptV1, ptV2, ptV3, lnV, lkF1, lkF2, lkF3, lkF4, lkF5, lkFa, lkFb, lkFc, lkFd, lkFe, lkFf, lkFg, lkFh, lkFi, lkFj, lkFk, lkFl, lkFm, lkFn, lkFo, lkFp, mC_Place_called, mC_Passing_called, mC_DeskPlace_called, mC_Visitor_called, mC_Passing_then, mC_DeskPlace_then, mC_DeskPlace_hands, mC_DeskPlace_takes, mC_DeskPlace_is_ranked, mC_DeskPlace_rests, mC_DeskPlace_begun, mC_Visitor_since, mC_Visitor_until, mC_Visitor_things, mC_Visitor_grade, mC_Floor_guests, mC_Floor_rows, mC_Floor_spots, mC_Floor_ranks, mC_Floor_pools, lkXF_called, lkXF_then, lkXF_takes, lkXF_hands, lkXF_is_ranked, lkXF_rests, lkXF_begun, lkXF_pool, lkXF_rule, lkXF_goals, lkXF_moved, lkXF_can, lkXF_moves, lkXF_clock, lkXF_change, lkXF_first, lkXF_served, lkXF_rests_at, lkXF_chosen, lkXF_is_open, lnXF, lkDF_called, lkDF_then, lkDF_takes, lkDF_hands, lkDF_is_ranked, lkDF_rests, lkDF_begun, lkDF_pool, lkDF_rule, lkDF_goals, lkDF_moved, lkDF_can, lkDF_moves, lkDF_clock, lkDF_change, lkDF_first, lkDF_served, lkDF_rests_at, lkDF_chosen, lkDF_is_open, lnDF, lkKF_called, lkKF_then, lkKF_takes, lkKF_hands, lkKF_is_ranked, lkKF_rests, lkKF_begun, lkKF_pool, lkKF_rule, lkKF_goals, lkKF_moved, lkKF_can, lkKF_moves, lkKF_clock, lkKF_change, lkKF_first, lkKF_served, lkKF_rests_at, lkKF_chosen, lkKF_is_open, lnKF, L_at_1, List.lookup_cons, beq_self_eq_true, nE_Place_Passing, nE_Place_DeskPlace, nE_Place_Visitor, nE_Place_Floor, nE_Passing_Place, nE_Passing_DeskPlace, nE_Passing_Visitor, nE_Passing_Floor, nE_DeskPlace_Place, nE_DeskPlace_Passing, nE_DeskPlace_Visitor, nE_DeskPlace_Floor, nE_Visitor_Place, nE_Visitor_Passing, nE_Visitor_DeskPlace, nE_Visitor_Floor, nE_Floor_Place, nE_Floor_Passing, nE_Floor_DeskPlace, nE_Floor_Visitor, gp, gp1, a, gl, e, hq, kr, -gEq_pair, -gEq_ints, -itL]
    | false =>
      generalize (x :: r).map I = WI at *
      generalize (m.rows n).map I = R at *
      simp_arith [g_DeskPlace_first, den_DeskPlace_first, dKeyB, dLcA, dLcX, fstD, dFldA, dSetFA, dMethL, dMeth, insA, insD, dRGet, rdcD, dctD, keyD, dSt, dDAug, rol, spl, izl, gsl, Sdl, vcell, tilD, dFldAug, gf, gsp, gro, gpo, grk, ggs, lkV1, lkV2, lkV3, lkV4, lkV5, ptV1, ptV2, ptV3, lnV, lkF1, lkF2, lkF3, lkF4, lkF5, lkFa, lkFb, lkFc, lkFd, lkFe, lkFf, lkFg, lkFh, lkFi, lkFj, lkFk, lkFl, lkFm, lkFn, lkFo, lkFp, mC_Place_called, mC_Passing_called, mC_DeskPlace_called, mC_Visitor_called, mC_Passing_then, mC_DeskPlace_then, mC_DeskPlace_hands, mC_DeskPlace_takes, mC_DeskPlace_is_ranked, mC_DeskPlace_rests, mC_DeskPlace_begun, mC_Visitor_since, mC_Visitor_until, mC_Visitor_things, mC_Visitor_grade, mC_Floor_guests, mC_Floor_rows, mC_Floor_spots, mC_Floor_ranks, mC_Floor_pools, lkXF_called, lkXF_then, lkXF_takes, lkXF_hands, lkXF_is_ranked, lkXF_rests, lkXF_begun, lkXF_pool, lkXF_rule, lkXF_goals, lkXF_moved, lkXF_can, lkXF_moves, lkXF_clock, lkXF_change, lkXF_first, lkXF_served, lkXF_rests_at, lkXF_chosen, lkXF_is_open, lnXF, lkDF_called, lkDF_then, lkDF_takes, lkDF_hands, lkDF_is_ranked, lkDF_rests, lkDF_begun, lkDF_pool, lkDF_rule, lkDF_goals, lkDF_moved, lkDF_can, lkDF_moves, lkDF_clock, lkDF_change, lkDF_first, lkDF_served, lkDF_rests_at, lkDF_chosen, lkDF_is_open, lnDF, lkKF_called, lkKF_then, lkKF_takes, lkKF_hands, lkKF_is_ranked, lkKF_rests, lkKF_begun, lkKF_pool, lkKF_rule, lkKF_goals, lkKF_moved, lkKF_can, lkKF_moves, lkKF_clock, lkKF_change, lkKF_first, lkKF_served, lkKF_rests_at, lkKF_chosen, lkKF_is_open, lnKF, L_at_1, List.lookup_cons, beq_self_eq_true, nE_Place_Passing, nE_Place_DeskPlace, nE_Place_Visitor, nE_Place_Floor, nE_Passing_Place, nE_Passing_DeskPlace, nE_Passing_Visitor, nE_Passing_Floor, nE_DeskPlace_Place, nE_DeskPlace_Passing, nE_DeskPlace_Visitor, nE_DeskPlace_Floor, nE_Visitor_Place, nE_Visitor_Passing, nE_Visitor_DeskPlace, nE_Visitor_Floor, nE_Floor_Place, nE_Floor_Passing, nE_Floor_DeskPlace, nE_Floor_Visitor, gp, gp1, a, gl, e, hq, a0, -gEq_pair, -gEq_ints, -itL]
theorem ok_DeskPlace_first (T : Tx K mg Env.Place Env.Passing Env.DeskPlace Env.Visitor Env.Floor Env.cl_DeskPlace_first Env.tl_DeskPlace_first) (h_M_at_1 : OkmL P w K mg base 1 L_at_1 "at" ["self", "name"]) (h_M_rank_1 : OkmL P w K mg base 1 L_rank_1 "rank" ["self", "number"]) (h_M_where_1 : OkmL P w K mg base 1 L_where_1 "where" ["self", "number"]) (h_T_DeskPlace_first : LamX.TabB base mg Env.cl_DeskPlace_first Env.tl_DeskPlace_first) {f : Addr} {fd : FuncData} (F : Fun K "first" "DeskPlace.first" sDeskPlace_first f fd) : FnOk P w K mg base (L2N.CX P w) 4 f fd ["self", "floor"] (spG K g_DeskPlace_first) := FnOk.by (raw_DeskPlace_first T h_M_at_1 h_M_rank_1 h_M_where_1 h_T_DeskPlace_first F) eq_DeskPlace_first
abbrev sFloor_move : Stmt := (inClass (top 14) 8)
abbrev NFloor_move : List Str := ["self", "number", "turn"]
theorem scFloor_move : FnScope NFloor_move ["self", "number", "turn"] (defScope sFloor_move) := ⟨rfl, rfl, rfl, by decide +kernel, rfl, by decide +kernel, by decide +kernel⟩
noncomputable def den_Floor_move : M Fl :=
    (dRet (dMethL L_moves_3 "moves" (okD (dMethL L_place_1 "place" (dVar 0) (dCons (dD (dVar 1)) dNil))) (dCons (dD (dVar 0)) (dCons (dD (dVar 1)) (dCons (dD (dVar 2)) dNil)))))
theorem raw_Floor_move (T : Tx K mg Env.Place Env.Passing Env.DeskPlace Env.Visitor Env.Floor Env.cl_DeskPlace_first Env.tl_DeskPlace_first) (h_M_moves_3 : OkmL P w K mg base 3 L_moves_3 "moves" ["self", "floor", "number", "turn"]) (h_M_place_1 : OkmL P w K mg base 1 L_place_1 "place" ["self", "number"]) {f : Addr} {fd : FuncData} (F : Fun K "move" "Floor.move" sFloor_move f fd) : FnOk P w K mg base (L2N.CX P w) 4 f fd ["self", "number", "turn"] (spG K (runD 3 3 den_Floor_move)) := by
  have sc := scFloor_move
  exact fn_ok (N := NFloor_move) F sc rfl (by decide) fun cdv A outer s H E hr => ⟨_, ((bd_one (sd_ret (dd_methL h_M_moves_3 (hr.mono (by decide)) (DD.e (dd_methL h_M_place_1 (hr.mono (by decide)) (ed_var 0) (ad_cons (ED.d (ed_var 1)) ad_nil))) (ad_cons (ED.d (ed_var 0)) (ad_cons (ED.d (ed_var 1)) (ad_cons (ED.d (ed_var 2)) ad_nil)))))) : BD _ _ _ _ den_Floor_move)⟩
noncomputable def g_Floor_move : G := runD 3 3 den_Floor_move
theorem eq_Floor_move : ∀ ds S, g_Floor_move ds S ≠ .no → runD 3 3 den_Floor_move ds S = g_Floor_move ds S := fun _ _ _ => rfl
def mvS : Sta → Bool
  | .exit _ => false
  | .pool _ _ => false
  | _ => true
def goS (m : Fm) (k : Nat) (v : Vz) (z c : Int) : Sta → Fm
  | .desk n h ts kk rs t => match v.til with
    | some _ => m.enter k v t z
    | none => (m.setVis k { v with til := some (z + tkAt ts c) }).setPl v.called (plcS (.desk n h ts kk rs t) (c + 1))
  | s => m.enter k v (nxS s) z
def wordS (v : Vz) : Sta → Str × Str
  | .desk n h ts kk rs t => match v.til with
    | some _ => (Str.ofString "enters", t)
    | none => (Str.ofString "begins", v.called)
  | s => (Str.ofString "enters", nxS s)
theorem fmove_ok {L : Lay} {m : Fm} {S : List Cell} (h : FloorAt L m S) {k : Nat} {v : Vz} (hk : m.vis[k]? = some v) (hn : v.called ∈ m.ns) (s : Sta) (c : Int) (hs : m.plc v.called = plcS s c) (hname : s.name = v.called) (hh : hereS s = true) (hmv : mvS s = true) (hn2 : nxS s ∈ m.ns) (hm : ((k : Nat) : Int) ∈ m.rows v.called) (hz : (m.rows v.called).length < 1000) (hz2 : (m.rows (nxS s)).length < 1000) (htk : ∀ n h ts kk rs t, s = .desk n h ts kk rs t → 1 ≤ ts.length) (z : Int) : ∃ S', g_Floor_move [.loc L.f, .v (.int (k : Nat)), .v (.int z)] S = .ok (.tup [.v (.str (wordS v s).1), .v (.str (wordS v s).2)]) S' ∧ FloorAt L (goS m k v z c s) S' := by
  have gf := h.gf
  have p := place_ok h hk hn
  have gp := h.gpl hn
  rw [hs] at gp
  cases s with
  | pool n z => cases hmv
  | exit n => cases hmv
  | desk n h' ts kk rs t =>
    have hname : n = v.called := hname
    subst hname
    unfold plcS at gp
    cases hu : v.til with
    | some u =>
      obtain ⟨S', e, h'⟩ := dmoves_go h hk hn hs hn2 hm hz hz2 z u hu
      refine ⟨S', ?_, by unfold goS; dsimp only; rw [hu]; exact h'⟩
      simp_arith [g_Floor_move, den_Floor_move, wordS, hu, dFldA, dSetFA, dMethL, dMeth, insA, insD, dRGet, rdcD, dctD, keyD, dSt, dDAug, rol, spl, izl, gsl, Sdl, vcell, tilD, dFldAug, gf, lkV1, lkV2, lkV3, lkV4, lkV5, ptV1, ptV2, ptV3, lnV, lkF1, lkF2, lkF3, lkF4, lkF5, lkFa, lkFb, lkFc, lkFd, lkFe, lkFf, lkFg, lkFh, lkFi, lkFj, lkFk, lkFl, lkFm, lkFn, lkFo, lkFp, mC_Place_called, mC_Passing_called, mC_DeskPlace_called, mC_Visitor_called, mC_Passing_then, mC_DeskPlace_then, mC_DeskPlace_hands, mC_DeskPlace_takes, mC_DeskPlace_is_ranked, mC_DeskPlace_rests, mC_DeskPlace_begun, mC_Visitor_since, mC_Visitor_until, mC_Visitor_things, mC_Visitor_grade, mC_Floor_guests, mC_Floor_rows, mC_Floor_spots, mC_Floor_ranks, mC_Floor_pools, lkXF_called, lkXF_then, lkXF_takes, lkXF_hands, lkXF_is_ranked, lkXF_rests, lkXF_begun, lkXF_pool, lkXF_rule, lkXF_goals, lkXF_moved, lkXF_can, lkXF_moves, lkXF_clock, lkXF_change, lkXF_first, lkXF_served, lkXF_rests_at, lkXF_chosen, lkXF_is_open, lnXF, lkDF_called, lkDF_then, lkDF_takes, lkDF_hands, lkDF_is_ranked, lkDF_rests, lkDF_begun, lkDF_pool, lkDF_rule, lkDF_goals, lkDF_moved, lkDF_can, lkDF_moves, lkDF_clock, lkDF_change, lkDF_first, lkDF_served, lkDF_rests_at, lkDF_chosen, lkDF_is_open, lnDF, lkKF_called, lkKF_then, lkKF_takes, lkKF_hands, lkKF_is_ranked, lkKF_rests, lkKF_begun, lkKF_pool, lkKF_rule, lkKF_goals, lkKF_moved, lkKF_can, lkKF_moves, lkKF_clock, lkKF_change, lkKF_first, lkKF_served, lkKF_rests_at, lkKF_chosen, lkKF_is_open, lnKF, L_place_1, L_moves_3, List.lookup_cons, beq_self_eq_true, nE_Place_Passing, nE_Place_DeskPlace, nE_Place_Visitor, nE_Place_Floor, nE_Passing_Place, nE_Passing_DeskPlace, nE_Passing_Visitor, nE_Passing_Floor, nE_DeskPlace_Place, nE_DeskPlace_Passing, nE_DeskPlace_Visitor, nE_DeskPlace_Floor, nE_Visitor_Place, nE_Visitor_Passing, nE_Visitor_DeskPlace, nE_Visitor_Floor, nE_Floor_Place, nE_Floor_Passing, nE_Floor_DeskPlace, nE_Floor_Visitor, p, gp, e]
    | none =>
      obtain ⟨S', e, h'⟩ := dmoves_on h hk hn hs (htk _ _ _ _ _ _ rfl) z hu
      refine ⟨S', ?_, by unfold goS; dsimp only; rw [hu]; exact h'⟩
      simp_arith [g_Floor_move, den_Floor_move, wordS, hu, dFldA, dSetFA, dMethL, dMeth, insA, insD, dRGet, rdcD, dctD, keyD, dSt, dDAug, rol, spl, izl, gsl, Sdl, vcell, tilD, dFldAug, gf, lkV1, lkV2, lkV3, lkV4, lkV5, ptV1, ptV2, ptV3, lnV, lkF1, lkF2, lkF3, lkF4, lkF5, lkFa, lkFb, lkFc, lkFd, lkFe, lkFf, lkFg, lkFh, lkFi, lkFj, lkFk, lkFl, lkFm, lkFn, lkFo, lkFp, mC_Place_called, mC_Passing_called, mC_DeskPlace_called, mC_Visitor_called, mC_Passing_then, mC_DeskPlace_then, mC_DeskPlace_hands, mC_DeskPlace_takes, mC_DeskPlace_is_ranked, mC_DeskPlace_rests, mC_DeskPlace_begun, mC_Visitor_since, mC_Visitor_until, mC_Visitor_things, mC_Visitor_grade, mC_Floor_guests, mC_Floor_rows, mC_Floor_spots, mC_Floor_ranks, mC_Floor_pools, lkXF_called, lkXF_then, lkXF_takes, lkXF_hands, lkXF_is_ranked, lkXF_rests, lkXF_begun, lkXF_pool, lkXF_rule, lkXF_goals, lkXF_moved, lkXF_can, lkXF_moves, lkXF_clock, lkXF_change, lkXF_first, lkXF_served, lkXF_rests_at, lkXF_chosen, lkXF_is_open, lnXF, lkDF_called, lkDF_then, lkDF_takes, lkDF_hands, lkDF_is_ranked, lkDF_rests, lkDF_begun, lkDF_pool, lkDF_rule, lkDF_goals, lkDF_moved, lkDF_can, lkDF_moves, lkDF_clock, lkDF_change, lkDF_first, lkDF_served, lkDF_rests_at, lkDF_chosen, lkDF_is_open, lnDF, lkKF_called, lkKF_then, lkKF_takes, lkKF_hands, lkKF_is_ranked, lkKF_rests, lkKF_begun, lkKF_pool, lkKF_rule, lkKF_goals, lkKF_moved, lkKF_can, lkKF_moves, lkKF_clock, lkKF_change, lkKF_first, lkKF_served, lkKF_rests_at, lkKF_chosen, lkKF_is_open, lnKF, L_place_1, L_moves_3, List.lookup_cons, beq_self_eq_true, nE_Place_Passing, nE_Place_DeskPlace, nE_Place_Visitor, nE_Place_Floor, nE_Passing_Place, nE_Passing_DeskPlace, nE_Passing_Visitor, nE_Passing_Floor, nE_DeskPlace_Place, nE_DeskPlace_Passing, nE_DeskPlace_Visitor, nE_DeskPlace_Floor, nE_Visitor_Place, nE_Visitor_Passing, nE_Visitor_DeskPlace, nE_Visitor_Floor, nE_Floor_Place, nE_Floor_Passing, nE_Floor_DeskPlace, nE_Floor_Visitor, p, gp, e]
  | doorA n r ts t =>
    obtain ⟨S', e, h'⟩ := pmoves_ok h hk hn (C := Env.Passing) (fs := DF n t) (th := t) hs mC_Passing_then rfl hn2 hm hz hz2 z
    refine ⟨S', ?_, h'⟩
    unfold plcS at gp
    simp_arith [g_Floor_move, den_Floor_move, wordS, nxS, dFldA, dSetFA, dMethL, dMeth, insA, insD, dRGet, rdcD, dctD, keyD, dSt, dDAug, rol, spl, izl, gsl, Sdl, vcell, tilD, dFldAug, gf, lkV1, lkV2, lkV3, lkV4, lkV5, ptV1, ptV2, ptV3, lnV, lkF1, lkF2, lkF3, lkF4, lkF5, lkFa, lkFb, lkFc, lkFd, lkFe, lkFf, lkFg, lkFh, lkFi, lkFj, lkFk, lkFl, lkFm, lkFn, lkFo, lkFp, mC_Place_called, mC_Passing_called, mC_DeskPlace_called, mC_Visitor_called, mC_Passing_then, mC_DeskPlace_then, mC_DeskPlace_hands, mC_DeskPlace_takes, mC_DeskPlace_is_ranked, mC_DeskPlace_rests, mC_DeskPlace_begun, mC_Visitor_since, mC_Visitor_until, mC_Visitor_things, mC_Visitor_grade, mC_Floor_guests, mC_Floor_rows, mC_Floor_spots, mC_Floor_ranks, mC_Floor_pools, lkXF_called, lkXF_then, lkXF_takes, lkXF_hands, lkXF_is_ranked, lkXF_rests, lkXF_begun, lkXF_pool, lkXF_rule, lkXF_goals, lkXF_moved, lkXF_can, lkXF_moves, lkXF_clock, lkXF_change, lkXF_first, lkXF_served, lkXF_rests_at, lkXF_chosen, lkXF_is_open, lnXF, lkDF_called, lkDF_then, lkDF_takes, lkDF_hands, lkDF_is_ranked, lkDF_rests, lkDF_begun, lkDF_pool, lkDF_rule, lkDF_goals, lkDF_moved, lkDF_can, lkDF_moves, lkDF_clock, lkDF_change, lkDF_first, lkDF_served, lkDF_rests_at, lkDF_chosen, lkDF_is_open, lnDF, lkKF_called, lkKF_then, lkKF_takes, lkKF_hands, lkKF_is_ranked, lkKF_rests, lkKF_begun, lkKF_pool, lkKF_rule, lkKF_goals, lkKF_moved, lkKF_can, lkKF_moves, lkKF_clock, lkKF_change, lkKF_first, lkKF_served, lkKF_rests_at, lkKF_chosen, lkKF_is_open, lnKF, L_place_1, L_moves_3, List.lookup_cons, beq_self_eq_true, nE_Place_Passing, nE_Place_DeskPlace, nE_Place_Visitor, nE_Place_Floor, nE_Passing_Place, nE_Passing_DeskPlace, nE_Passing_Visitor, nE_Passing_Floor, nE_DeskPlace_Place, nE_DeskPlace_Passing, nE_DeskPlace_Visitor, nE_DeskPlace_Floor, nE_Visitor_Place, nE_Visitor_Passing, nE_Visitor_DeskPlace, nE_Visitor_Floor, nE_Floor_Place, nE_Floor_Passing, nE_Floor_DeskPlace, nE_Floor_Visitor, p, gp, e]
  | doorD n r a b c d e t =>
    obtain ⟨S', e, h'⟩ := pmoves_ok h hk hn (C := Env.Passing) (fs := DF n t) (th := t) hs mC_Passing_then rfl hn2 hm hz hz2 z
    refine ⟨S', ?_, h'⟩
    unfold plcS at gp
    simp_arith [g_Floor_move, den_Floor_move, wordS, nxS, dFldA, dSetFA, dMethL, dMeth, insA, insD, dRGet, rdcD, dctD, keyD, dSt, dDAug, rol, spl, izl, gsl, Sdl, vcell, tilD, dFldAug, gf, lkV1, lkV2, lkV3, lkV4, lkV5, ptV1, ptV2, ptV3, lnV, lkF1, lkF2, lkF3, lkF4, lkF5, lkFa, lkFb, lkFc, lkFd, lkFe, lkFf, lkFg, lkFh, lkFi, lkFj, lkFk, lkFl, lkFm, lkFn, lkFo, lkFp, mC_Place_called, mC_Passing_called, mC_DeskPlace_called, mC_Visitor_called, mC_Passing_then, mC_DeskPlace_then, mC_DeskPlace_hands, mC_DeskPlace_takes, mC_DeskPlace_is_ranked, mC_DeskPlace_rests, mC_DeskPlace_begun, mC_Visitor_since, mC_Visitor_until, mC_Visitor_things, mC_Visitor_grade, mC_Floor_guests, mC_Floor_rows, mC_Floor_spots, mC_Floor_ranks, mC_Floor_pools, lkXF_called, lkXF_then, lkXF_takes, lkXF_hands, lkXF_is_ranked, lkXF_rests, lkXF_begun, lkXF_pool, lkXF_rule, lkXF_goals, lkXF_moved, lkXF_can, lkXF_moves, lkXF_clock, lkXF_change, lkXF_first, lkXF_served, lkXF_rests_at, lkXF_chosen, lkXF_is_open, lnXF, lkDF_called, lkDF_then, lkDF_takes, lkDF_hands, lkDF_is_ranked, lkDF_rests, lkDF_begun, lkDF_pool, lkDF_rule, lkDF_goals, lkDF_moved, lkDF_can, lkDF_moves, lkDF_clock, lkDF_change, lkDF_first, lkDF_served, lkDF_rests_at, lkDF_chosen, lkDF_is_open, lnDF, lkKF_called, lkKF_then, lkKF_takes, lkKF_hands, lkKF_is_ranked, lkKF_rests, lkKF_begun, lkKF_pool, lkKF_rule, lkKF_goals, lkKF_moved, lkKF_can, lkKF_moves, lkKF_clock, lkKF_change, lkKF_first, lkKF_served, lkKF_rests_at, lkKF_chosen, lkKF_is_open, lnKF, L_place_1, L_moves_3, List.lookup_cons, beq_self_eq_true, nE_Place_Passing, nE_Place_DeskPlace, nE_Place_Visitor, nE_Place_Floor, nE_Passing_Place, nE_Passing_DeskPlace, nE_Passing_Visitor, nE_Passing_Floor, nE_DeskPlace_Place, nE_DeskPlace_Passing, nE_DeskPlace_Visitor, nE_DeskPlace_Floor, nE_Visitor_Place, nE_Visitor_Passing, nE_Visitor_DeskPlace, nE_Visitor_Floor, nE_Floor_Place, nE_Floor_Passing, nE_Floor_DeskPlace, nE_Floor_Visitor, p, gp, e]
  | _ => cases hh
theorem ok_Floor_move (T : Tx K mg Env.Place Env.Passing Env.DeskPlace Env.Visitor Env.Floor Env.cl_DeskPlace_first Env.tl_DeskPlace_first) (h_M_moves_3 : OkmL P w K mg base 3 L_moves_3 "moves" ["self", "floor", "number", "turn"]) (h_M_place_1 : OkmL P w K mg base 1 L_place_1 "place" ["self", "number"]) {f : Addr} {fd : FuncData} (F : Fun K "move" "Floor.move" sFloor_move f fd) : FnOk P w K mg base (L2N.CX P w) 4 f fd ["self", "number", "turn"] (spG K g_Floor_move) := FnOk.by (raw_Floor_move T h_M_moves_3 h_M_place_1 F) eq_Floor_move
noncomputable def L_first_1 : List (Addr × G) := [(Env.DeskPlace, g_DeskPlace_first)]
theorem ok_M_first_1 (T : Tx K mg Env.Place Env.Passing Env.DeskPlace Env.Visitor Env.Floor Env.cl_DeskPlace_first Env.tl_DeskPlace_first) (h_M_at_1 : OkmL P w K mg base 1 L_at_1 "at" ["self", "name"]) (h_M_rank_1 : OkmL P w K mg base 1 L_rank_1 "rank" ["self", "number"]) (h_M_where_1 : OkmL P w K mg base 1 L_where_1 "where" ["self", "number"]) (h_T_DeskPlace_first : LamX.TabB base mg Env.cl_DeskPlace_first Env.tl_DeskPlace_first) : OkmL P w K mg base 4 L_first_1 "first" ["self", "floor"] := fun p hp => by
  simp only [L_first_1, List.mem_cons, List.not_mem_nil, or_false] at hp
  rcases hp with rfl
  · exact ⟨okm_of T.m_DeskPlace_first_1 (by decide) fun F => ok_DeskPlace_first T h_M_at_1 h_M_rank_1 h_M_where_1 h_T_DeskPlace_first F, T.c_DeskPlace⟩
noncomputable def L_move_2 : List (Addr × G) := [(Env.Floor, g_Floor_move)]
theorem ok_M_move_2 (T : Tx K mg Env.Place Env.Passing Env.DeskPlace Env.Visitor Env.Floor Env.cl_DeskPlace_first Env.tl_DeskPlace_first) (h_M_moves_3 : OkmL P w K mg base 3 L_moves_3 "moves" ["self", "floor", "number", "turn"]) (h_M_place_1 : OkmL P w K mg base 1 L_place_1 "place" ["self", "number"]) : OkmL P w K mg base 4 L_move_2 "move" ["self", "number", "turn"] := fun p hp => by
  simp only [L_move_2, List.mem_cons, List.not_mem_nil, or_false] at hp
  rcases hp with rfl
  · exact ⟨okm_of T.m_Floor_move_2 (by decide) fun F => ok_Floor_move T h_M_moves_3 h_M_place_1 F, T.c_Floor⟩
abbrev sDeskPlace_can : Stmt := (inClass (top 5) 4)
abbrev NDeskPlace_can : List Str := ["self", "floor", "number", "turn", "until"]
theorem scDeskPlace_can : FnScope NDeskPlace_can ["self", "floor", "number", "turn"] (defScope sDeskPlace_can) := ⟨rfl, rfl, rfl, by decide +kernel, rfl, by decide +kernel, by decide +kernel⟩
noncomputable def den_DeskPlace_can : M Fl :=
    (dSeq (dSet 4 (dOp gIx (okD (dMethL L_where_1 "where" (dVar 1) (dCons (dD (dVar 2)) dNil))) (dC (.int 2))))
    (dSeq (dIfS (dCmpT (gNone true) (dVar 4) (dC .non)) (dRet (dOp (gI iGe) (dVar 3) (dVar 4))) dNx)
    (dRet (dD (dAndV (okD (dOp (gI iLt) (okD (dMethL L_served_1 "served" (dVar 0) (dCons (dD (dVar 1)) dNil))) (okD (dFldA Cs_hands "hands" (dVar 0))))) (dAndV (dNotV (okD (dMethL L_rests_at_1 "rests_at" (dVar 0) (dCons (dD (dVar 3)) dNil)))) (okD (dOp (gEq false) (okD (dMethL L_first_1 "first" (dVar 0) (dCons (dD (dVar 1)) dNil))) (dVar 2)))))))))
theorem raw_DeskPlace_can (T : Tx K mg Env.Place Env.Passing Env.DeskPlace Env.Visitor Env.Floor Env.cl_DeskPlace_first Env.tl_DeskPlace_first) (h_M_first_1 : OkmL P w K mg base 4 L_first_1 "first" ["self", "floor"]) (h_M_rests_at_1 : OkmL P w K mg base 1 L_rests_at_1 "rests_at" ["self", "turn"]) (h_M_served_1 : OkmL P w K mg base 2 L_served_1 "served" ["self", "floor"]) (h_M_where_1 : OkmL P w K mg base 1 L_where_1 "where" ["self", "number"]) {f : Addr} {fd : FuncData} (F : Fun K "can" "DeskPlace.can" sDeskPlace_can f fd) : FnOk P w K mg base (L2N.CX P w) 5 f fd ["self", "floor", "number", "turn"] (spG K (runD 5 4 den_DeskPlace_can)) := by
  have sc := scDeskPlace_can
  exact fn_ok (N := NDeskPlace_can) F sc rfl (by decide) fun cdv A outer s H E hr => ⟨_, ((bd_cons (sd_set (i := 4) sc.nd rfl (by first | exact Or.inl rfl | exact Or.inr rfl) (dd_ix (DD.e (dd_methL h_M_where_1 (hr.mono (by decide)) (ed_var 1) (ad_cons (ED.d (ed_var 2)) ad_nil))) ed_int (fun _ _ => rfl)))
    (bd_cons (sd_if (td_cmp cIsNot (ed_var 4) ed_non (nomark _)) (bd_one (sd_ret (dd_cmp cGe (ed_var 3) (ed_var 4) (nomark _)))) bd_nil)
    (bd_one (sd_ret (ED.d (ed_and (DD.e (dd_cmp cLt (DD.e (dd_methL h_M_served_1 (hr.mono (by decide)) (ed_var 0) (ad_cons (ED.d (ed_var 1)) ad_nil))) (DD.e (dd_fldA (fa_hands T) (ed_var 0))) (nomark _))) (ed_and (ed_not (DD.e (dd_methL h_M_rests_at_1 (hr.mono (by decide)) (ed_var 0) (ad_cons (ED.d (ed_var 3)) ad_nil)))) (ed_one (DD.e (dd_cmp (cEq hr.units) (DD.e (dd_methL h_M_first_1 (hr.mono (by decide)) (ed_var 0) (ad_cons (ED.d (ed_var 1)) ad_nil))) (ed_var 2) (nomark _))))))))))) : BD _ _ _ _ den_DeskPlace_can)⟩
noncomputable def g_DeskPlace_can : G := runD 5 4 den_DeskPlace_can
theorem eq_DeskPlace_can : ∀ ds S, g_DeskPlace_can ds S ≠ .no → runD 5 4 den_DeskPlace_can ds S = g_DeskPlace_can ds S := fun _ _ _ => rfl
def canDk (m : Fm) (n : Str) (hd : Int) (rk : Bool) (rs : List (Int × Int)) (x : Int) (u : Option Int) (z : Int) : Bool := match u with
  | some t => decide (t ≤ z)
  | none => decide (((servN m n : Nat) : Int) < hd) && (!restB rs z && decide (fstL m n rk = some x))
theorem gEq_fst (f : Option Int) (x : Int) (c : Stt) : gEq false (.d (fstD f)) (.d (.v (.int x))) c = .ok (.v (.bl (decide (f = some x)))) c := by
  cases f with
  | none => exact gEq_of (neg := false) (k := false) (p := .none) (q := .int x) rfl rfl (by decide) (by simp [PyData.eqv])
  | some y =>
    have e : (some y = some x) = (y = x) := by rw [Option.some.injEq]
    show gEq false (.d (.v (.int y))) (.d (.v (.int x))) c = _
    rw [gEq_int]
    simp only [e]
    rfl
theorem dcan_ok {L : Lay} {m : Fm} {S : List Cell} (h : FloorAt L m S) {k : Nat} {v : Vz} (hk : m.vis[k]? = some v) (hn : v.called ∈ m.ns) (hr : RowIn m v.called) (nd : (m.rows v.called).Nodup) (hz : (m.rows v.called).length ≤ 1000) {th : Str} {hd bg : Int} {tk : D} {rk : Bool} {rs : List (Int × Int)} (hrz : rs.length ≤ 1000) (hp : m.plc v.called = .ins Env.DeskPlace (KF v.called th hd tk rk (.tup (rs.map pD)) bg)) (z : Int) : ∃ U, g_DeskPlace_can [.loc (L.pl v.called), .loc L.f, .v (.int (k : Nat)), .v (.int z)] S = .ok (.v (.bl (canDk m v.called hd rk rs (k : Nat) v.til z))) (S ++ U) := by
  have gf := h.gf
  have gsp := h.gsp
  have gro := h.gro
  have gpo := h.gpo
  have grk := h.grk
  have ggs := h.ggs
  have gp := h.gpl hn
  rw [hp] at gp
  have wh := where_ok h hk
  have q2 : ∀ a b u : D, atI [a, b, u] 2 = some u := fun _ _ _ => rfl
  cases hu : v.til with
  | some t =>
    refine ⟨[], ?_⟩
    rw [hu] at wh
    unfold tilD at wh
    rw [List.append_nil]
    by_cases q : t ≤ z
    · simp_arith [g_DeskPlace_can, den_DeskPlace_can, canDk, dFldA, dSetFA, dMethL, dMeth, insA, insD, dRGet, rdcD, dctD, keyD, dSt, dDAug, rol, spl, izl, gsl, Sdl, vcell, tilD, dFldAug, gf, lkV1, lkV2, lkV3, lkV4, lkV5, ptV1, ptV2, ptV3, lnV, lkF1, lkF2, lkF3, lkF4, lkF5, lkFa, lkFb, lkFc, lkFd, lkFe, lkFf, lkFg, lkFh, lkFi, lkFj, lkFk, lkFl, lkFm, lkFn, lkFo, lkFp, mC_Place_called, mC_Passing_called, mC_DeskPlace_called, mC_Visitor_called, mC_Passing_then, mC_DeskPlace_then, mC_DeskPlace_hands, mC_DeskPlace_takes, mC_DeskPlace_is_ranked, mC_DeskPlace_rests, mC_DeskPlace_begun, mC_Visitor_since, mC_Visitor_until, mC_Visitor_things, mC_Visitor_grade, mC_Floor_guests, mC_Floor_rows, mC_Floor_spots, mC_Floor_ranks, mC_Floor_pools, lkXF_called, lkXF_then, lkXF_takes, lkXF_hands, lkXF_is_ranked, lkXF_rests, lkXF_begun, lkXF_pool, lkXF_rule, lkXF_goals, lkXF_moved, lkXF_can, lkXF_moves, lkXF_clock, lkXF_change, lkXF_first, lkXF_served, lkXF_rests_at, lkXF_chosen, lkXF_is_open, lnXF, lkDF_called, lkDF_then, lkDF_takes, lkDF_hands, lkDF_is_ranked, lkDF_rests, lkDF_begun, lkDF_pool, lkDF_rule, lkDF_goals, lkDF_moved, lkDF_can, lkDF_moves, lkDF_clock, lkDF_change, lkDF_first, lkDF_served, lkDF_rests_at, lkDF_chosen, lkDF_is_open, lnDF, lkKF_called, lkKF_then, lkKF_takes, lkKF_hands, lkKF_is_ranked, lkKF_rests, lkKF_begun, lkKF_pool, lkKF_rule, lkKF_goals, lkKF_moved, lkKF_can, lkKF_moves, lkKF_clock, lkKF_change, lkKF_first, lkKF_served, lkKF_rests_at, lkKF_chosen, lkKF_is_open, lnKF, L_where_1, List.lookup_cons, beq_self_eq_true, nE_Place_Passing, nE_Place_DeskPlace, nE_Place_Visitor, nE_Place_Floor, nE_Passing_Place, nE_Passing_DeskPlace, nE_Passing_Visitor, nE_Passing_Floor, nE_DeskPlace_Place, nE_DeskPlace_Passing, nE_DeskPlace_Visitor, nE_DeskPlace_Floor, nE_Visitor_Place, nE_Visitor_Passing, nE_Visitor_DeskPlace, nE_Visitor_Floor, nE_Floor_Place, nE_Floor_Passing, nE_Floor_DeskPlace, nE_Floor_Visitor, wh, q2, ge_iff_le, q]
    · simp_arith [g_DeskPlace_can, den_DeskPlace_can, canDk, dFldA, dSetFA, dMethL, dMeth, insA, insD, dRGet, rdcD, dctD, keyD, dSt, dDAug, rol, spl, izl, gsl, Sdl, vcell, tilD, dFldAug, gf, lkV1, lkV2, lkV3, lkV4, lkV5, ptV1, ptV2, ptV3, lnV, lkF1, lkF2, lkF3, lkF4, lkF5, lkFa, lkFb, lkFc, lkFd, lkFe, lkFf, lkFg, lkFh, lkFi, lkFj, lkFk, lkFl, lkFm, lkFn, lkFo, lkFp, mC_Place_called, mC_Passing_called, mC_DeskPlace_called, mC_Visitor_called, mC_Passing_then, mC_DeskPlace_then, mC_DeskPlace_hands, mC_DeskPlace_takes, mC_DeskPlace_is_ranked, mC_DeskPlace_rests, mC_DeskPlace_begun, mC_Visitor_since, mC_Visitor_until, mC_Visitor_things, mC_Visitor_grade, mC_Floor_guests, mC_Floor_rows, mC_Floor_spots, mC_Floor_ranks, mC_Floor_pools, lkXF_called, lkXF_then, lkXF_takes, lkXF_hands, lkXF_is_ranked, lkXF_rests, lkXF_begun, lkXF_pool, lkXF_rule, lkXF_goals, lkXF_moved, lkXF_can, lkXF_moves, lkXF_clock, lkXF_change, lkXF_first, lkXF_served, lkXF_rests_at, lkXF_chosen, lkXF_is_open, lnXF, lkDF_called, lkDF_then, lkDF_takes, lkDF_hands, lkDF_is_ranked, lkDF_rests, lkDF_begun, lkDF_pool, lkDF_rule, lkDF_goals, lkDF_moved, lkDF_can, lkDF_moves, lkDF_clock, lkDF_change, lkDF_first, lkDF_served, lkDF_rests_at, lkDF_chosen, lkDF_is_open, lnDF, lkKF_called, lkKF_then, lkKF_takes, lkKF_hands, lkKF_is_ranked, lkKF_rests, lkKF_begun, lkKF_pool, lkKF_rule, lkKF_goals, lkKF_moved, lkKF_can, lkKF_moves, lkKF_clock, lkKF_change, lkKF_first, lkKF_served, lkKF_rests_at, lkKF_chosen, lkKF_is_open, lnKF, L_where_1, List.lookup_cons, beq_self_eq_true, nE_Place_Passing, nE_Place_DeskPlace, nE_Place_Visitor, nE_Place_Floor, nE_Passing_Place, nE_Passing_DeskPlace, nE_Passing_Visitor, nE_Passing_Floor, nE_DeskPlace_Place, nE_DeskPlace_Passing, nE_DeskPlace_Visitor, nE_DeskPlace_Floor, nE_Visitor_Place, nE_Visitor_Passing, nE_Visitor_DeskPlace, nE_Visitor_Floor, nE_Floor_Place, nE_Floor_Passing, nE_Floor_DeskPlace, nE_Floor_Visitor, wh, q2, ge_iff_le, q]
  | none =>
    rw [hu] at wh
    have tn : tilD none = .v .non := rfl
    rw [tn] at wh
    unfold canDk
    dsimp only
    have s1 := served_ok h hn hr hz hp
    have h1 := h.push [.lst ((m.rows v.called).map I)]
    have gp1 := h1.gpl hn
    rw [hp] at gp1
    have r1 := rests_ok h1 hn hrz hp z
    have f1 := first_ok h1 hn hr nd hz hp
    have gq := fun c => gEq_fst (fstL m v.called rk) (k : Nat) c
    by_cases c1 : ((servN m v.called : Nat) : Int) < hd
    · cases c2 : restB rs z with
      | true =>
        refine ⟨[.lst ((m.rows v.called).map I)], ?_⟩
        rw [c2] at r1
        generalize (rs.map pD) = R at *
        generalize ((servN m v.called : Nat) : Int) = sv at *
        generalize (m.rows v.called).map I = RR at *
        simp_arith [g_DeskPlace_can, den_DeskPlace_can, dFldA, dSetFA, dMethL, dMeth, insA, insD, dRGet, rdcD, dctD, keyD, dSt, dDAug, rol, spl, izl, gsl, Sdl, vcell, tilD, dFldAug, gf, gp, gp1, lkV1, lkV2, lkV3, lkV4, lkV5, ptV1, ptV2, ptV3, lnV, lkF1, lkF2, lkF3, lkF4, lkF5, lkFa, lkFb, lkFc, lkFd, lkFe, lkFf, lkFg, lkFh, lkFi, lkFj, lkFk, lkFl, lkFm, lkFn, lkFo, lkFp, mC_Place_called, mC_Passing_called, mC_DeskPlace_called, mC_Visitor_called, mC_Passing_then, mC_DeskPlace_then, mC_DeskPlace_hands, mC_DeskPlace_takes, mC_DeskPlace_is_ranked, mC_DeskPlace_rests, mC_DeskPlace_begun, mC_Visitor_since, mC_Visitor_until, mC_Visitor_things, mC_Visitor_grade, mC_Floor_guests, mC_Floor_rows, mC_Floor_spots, mC_Floor_ranks, mC_Floor_pools, lkXF_called, lkXF_then, lkXF_takes, lkXF_hands, lkXF_is_ranked, lkXF_rests, lkXF_begun, lkXF_pool, lkXF_rule, lkXF_goals, lkXF_moved, lkXF_can, lkXF_moves, lkXF_clock, lkXF_change, lkXF_first, lkXF_served, lkXF_rests_at, lkXF_chosen, lkXF_is_open, lnXF, lkDF_called, lkDF_then, lkDF_takes, lkDF_hands, lkDF_is_ranked, lkDF_rests, lkDF_begun, lkDF_pool, lkDF_rule, lkDF_goals, lkDF_moved, lkDF_can, lkDF_moves, lkDF_clock, lkDF_change, lkDF_first, lkDF_served, lkDF_rests_at, lkDF_chosen, lkDF_is_open, lnDF, lkKF_called, lkKF_then, lkKF_takes, lkKF_hands, lkKF_is_ranked, lkKF_rests, lkKF_begun, lkKF_pool, lkKF_rule, lkKF_goals, lkKF_moved, lkKF_can, lkKF_moves, lkKF_clock, lkKF_change, lkKF_first, lkKF_served, lkKF_rests_at, lkKF_chosen, lkKF_is_open, lnKF, L_where_1, L_served_1, L_rests_at_1, List.lookup_cons, beq_self_eq_true, nE_Place_Passing, nE_Place_DeskPlace, nE_Place_Visitor, nE_Place_Floor, nE_Passing_Place, nE_Passing_DeskPlace, nE_Passing_Visitor, nE_Passing_Floor, nE_DeskPlace_Place, nE_DeskPlace_Passing, nE_DeskPlace_Visitor, nE_DeskPlace_Floor, nE_Visitor_Place, nE_Visitor_Passing, nE_Visitor_DeskPlace, nE_Visitor_Floor, nE_Floor_Place, nE_Floor_Passing, nE_Floor_DeskPlace, nE_Floor_Visitor, wh, q2, s1, c1, c2, r1, Bool.true_and, Bool.false_and, -gEq_pair, -gEq_ints, -itL]
      | false =>
        refine ⟨[.lst ((m.rows v.called).map I)] ++ [.lst ((m.rows v.called).map I)], ?_⟩
        rw [c2] at r1
        rw [← List.append_assoc]
        generalize (rs.map pD) = R at *
        generalize ((servN m v.called : Nat) : Int) = sv at *
        have gf1 := h1.gf
        generalize (m.rows v.called).map I = RR at *
        generalize fstL m v.called rk = ff at *
        generalize fstD ff = fd at *
        simp_arith [g_DeskPlace_can, den_DeskPlace_can, dFldA, dSetFA, dMethL, dMeth, insA, insD, dRGet, rdcD, dctD, keyD, dSt, dDAug, rol, spl, izl, gsl, Sdl, vcell, tilD, dFldAug, gf, gp, gp1, lkV1, lkV2, lkV3, lkV4, lkV5, ptV1, ptV2, ptV3, lnV, lkF1, lkF2, lkF3, lkF4, lkF5, lkFa, lkFb, lkFc, lkFd, lkFe, lkFf, lkFg, lkFh, lkFi, lkFj, lkFk, lkFl, lkFm, lkFn, lkFo, lkFp, mC_Place_called, mC_Passing_called, mC_DeskPlace_called, mC_Visitor_called, mC_Passing_then, mC_DeskPlace_then, mC_DeskPlace_hands, mC_DeskPlace_takes, mC_DeskPlace_is_ranked, mC_DeskPlace_rests, mC_DeskPlace_begun, mC_Visitor_since, mC_Visitor_until, mC_Visitor_things, mC_Visitor_grade, mC_Floor_guests, mC_Floor_rows, mC_Floor_spots, mC_Floor_ranks, mC_Floor_pools, lkXF_called, lkXF_then, lkXF_takes, lkXF_hands, lkXF_is_ranked, lkXF_rests, lkXF_begun, lkXF_pool, lkXF_rule, lkXF_goals, lkXF_moved, lkXF_can, lkXF_moves, lkXF_clock, lkXF_change, lkXF_first, lkXF_served, lkXF_rests_at, lkXF_chosen, lkXF_is_open, lnXF, lkDF_called, lkDF_then, lkDF_takes, lkDF_hands, lkDF_is_ranked, lkDF_rests, lkDF_begun, lkDF_pool, lkDF_rule, lkDF_goals, lkDF_moved, lkDF_can, lkDF_moves, lkDF_clock, lkDF_change, lkDF_first, lkDF_served, lkDF_rests_at, lkDF_chosen, lkDF_is_open, lnDF, lkKF_called, lkKF_then, lkKF_takes, lkKF_hands, lkKF_is_ranked, lkKF_rests, lkKF_begun, lkKF_pool, lkKF_rule, lkKF_goals, lkKF_moved, lkKF_can, lkKF_moves, lkKF_clock, lkKF_change, lkKF_first, lkKF_served, lkKF_rests_at, lkKF_chosen, lkKF_is_open, lnKF, L_where_1, L_served_1, L_rests_at_1, L_first_1, List.lookup_cons, beq_self_eq_true, nE_Place_Passing, nE_Place_DeskPlace, nE_Place_Visitor, nE_Place_Floor, nE_Passing_Place, nE_Passing_DeskPlace, nE_Passing_Visitor, nE_Passing_Floor, nE_DeskPlace_Place, nE_DeskPlace_Passing, nE_DeskPlace_Visitor, nE_DeskPlace_Floor, nE_Visitor_Place, nE_Visitor_Passing, nE_Visitor_DeskPlace, nE_Visitor_Floor, nE_Floor_Place, nE_Floor_Passing, nE_Floor_DeskPlace, nE_Floor_Visitor, wh, q2, s1, c1, c2, r1, f1, gq, Bool.true_and, Bool.false_and, -gEq_pair, -gEq_ints, -itL]
    · refine ⟨[.lst ((m.rows v.called).map I)], ?_⟩
      generalize ((servN m v.called : Nat) : Int) = sv at *
      generalize (rs.map pD) = R at *
      generalize (m.rows v.called).map I = RR at *
      simp_arith [g_DeskPlace_can, den_DeskPlace_can, dFldA, dSetFA, dMethL, dMeth, insA, insD, dRGet, rdcD, dctD, keyD, dSt, dDAug, rol, spl, izl, gsl, Sdl, vcell, tilD, dFldAug, gf, gp, gp1, lkV1, lkV2, lkV3, lkV4, lkV5, ptV1, ptV2, ptV3, lnV, lkF1, lkF2, lkF3, lkF4, lkF5, lkFa, lkFb, lkFc, lkFd, lkFe, lkFf, lkFg, lkFh, lkFi, lkFj, lkFk, lkFl, lkFm, lkFn, lkFo, lkFp, mC_Place_called, mC_Passing_called, mC_DeskPlace_called, mC_Visitor_called, mC_Passing_then, mC_DeskPlace_then, mC_DeskPlace_hands, mC_DeskPlace_takes, mC_DeskPlace_is_ranked, mC_DeskPlace_rests, mC_DeskPlace_begun, mC_Visitor_since, mC_Visitor_until, mC_Visitor_things, mC_Visitor_grade, mC_Floor_guests, mC_Floor_rows, mC_Floor_spots, mC_Floor_ranks, mC_Floor_pools, lkXF_called, lkXF_then, lkXF_takes, lkXF_hands, lkXF_is_ranked, lkXF_rests, lkXF_begun, lkXF_pool, lkXF_rule, lkXF_goals, lkXF_moved, lkXF_can, lkXF_moves, lkXF_clock, lkXF_change, lkXF_first, lkXF_served, lkXF_rests_at, lkXF_chosen, lkXF_is_open, lnXF, lkDF_called, lkDF_then, lkDF_takes, lkDF_hands, lkDF_is_ranked, lkDF_rests, lkDF_begun, lkDF_pool, lkDF_rule, lkDF_goals, lkDF_moved, lkDF_can, lkDF_moves, lkDF_clock, lkDF_change, lkDF_first, lkDF_served, lkDF_rests_at, lkDF_chosen, lkDF_is_open, lnDF, lkKF_called, lkKF_then, lkKF_takes, lkKF_hands, lkKF_is_ranked, lkKF_rests, lkKF_begun, lkKF_pool, lkKF_rule, lkKF_goals, lkKF_moved, lkKF_can, lkKF_moves, lkKF_clock, lkKF_change, lkKF_first, lkKF_served, lkKF_rests_at, lkKF_chosen, lkKF_is_open, lnKF, L_where_1, L_served_1, List.lookup_cons, beq_self_eq_true, nE_Place_Passing, nE_Place_DeskPlace, nE_Place_Visitor, nE_Place_Floor, nE_Passing_Place, nE_Passing_DeskPlace, nE_Passing_Visitor, nE_Passing_Floor, nE_DeskPlace_Place, nE_DeskPlace_Passing, nE_DeskPlace_Visitor, nE_DeskPlace_Floor, nE_Visitor_Place, nE_Visitor_Passing, nE_Visitor_DeskPlace, nE_Visitor_Floor, nE_Floor_Place, nE_Floor_Passing, nE_Floor_DeskPlace, nE_Floor_Visitor, wh, q2, s1, c1, Bool.true_and, Bool.false_and, -gEq_pair, -gEq_ints, -itL]
theorem ok_DeskPlace_can (T : Tx K mg Env.Place Env.Passing Env.DeskPlace Env.Visitor Env.Floor Env.cl_DeskPlace_first Env.tl_DeskPlace_first) (h_M_first_1 : OkmL P w K mg base 4 L_first_1 "first" ["self", "floor"]) (h_M_rests_at_1 : OkmL P w K mg base 1 L_rests_at_1 "rests_at" ["self", "turn"]) (h_M_served_1 : OkmL P w K mg base 2 L_served_1 "served" ["self", "floor"]) (h_M_where_1 : OkmL P w K mg base 1 L_where_1 "where" ["self", "number"]) {f : Addr} {fd : FuncData} (F : Fun K "can" "DeskPlace.can" sDeskPlace_can f fd) : FnOk P w K mg base (L2N.CX P w) 5 f fd ["self", "floor", "number", "turn"] (spG K g_DeskPlace_can) := FnOk.by (raw_DeskPlace_can T h_M_first_1 h_M_rests_at_1 h_M_served_1 h_M_where_1 F) eq_DeskPlace_can
abbrev slaw_moved : Stmt := (top 24)
abbrev Nlaw_moved : List Str := ["_law_floor", "_law_own", "_law_number", "_law_turn", "_law_desk_here", "_law_found"]
theorem sclaw_moved : FnScope Nlaw_moved ["_law_floor", "_law_own", "_law_number", "_law_turn"] (defScope slaw_moved) := ⟨rfl, rfl, rfl, by decide +kernel, rfl, by decide +kernel, by decide +kernel⟩
noncomputable def den_law_moved : M Fl :=
    (dSeq (dSet 4 (dRGet (dVar 1) (dD (dC (.str "desk")))))
    (dSeq (dSet 5 (dMethL L_move_2 "move" (dVar 0) (dCons (dD (dVar 2)) (dCons (dD (dVar 3)) dNil))))
    (dSeq (dIfS (dCmpT (gNone false) (okD (dOp gIx (okD (dRGet (dVar 1) (dD (dC (.str "until"))))) (dVar 2))) (dC .non)) (dSeq (dPut (dOp gAdd (dVar 3) (okD (dOp gIx (okD (dOp gIx (dVar 4) (dC (.int 3)))) (okD (dOp gMod (okD (dRGet (dVar 1) (dD (dC (.str "begun"))))) (okD (M.bind (okD (dOp gIx (dVar 4) (dC (.int 3)))) gLen))))))) (okD (dRGet (dVar 1) (dD (dC (.str "until"))))) (dD (dVar 2)))
    (dSeq (dDAug (fun i j => i + j) (dVar 1) (dD (dC (.str "begun"))) (dD (dC (.int 1))))
    (dRet (dOp (gEq false) (dVar 5) (okD (dTup (dCons (dD (dC (.str "begins"))) (dCons (dOp gIx (dVar 4) (dC (.int 1))) dNil)))))))) dNx)
    (dSeq (dDrop (okD (dRem (okD (dRGet (dVar 1) (dD (dC (.str "row"))))) (dD (dVar 2)))))
    (dRet (dD (dAndV (okD (dOp (gEq false) (dVar 5) (okD (dTup (dCons (dD (dC (.str "enters"))) (dCons (dOp gIx (dVar 4) (dC (.int 6))) dNil)))))) (okD (dOp (gEq false) (okD (dMethL L_where_1 "where" (dVar 0) (dCons (dD (dVar 2)) dNil))) (okD (dTup (dCons (dOp gIx (dVar 4) (dC (.int 6))) (dCons (dD (dVar 3)) (dCons (dD (dC .non)) dNil))))))))))))))
theorem raw_law_moved (T : Tx K mg Env.Place Env.Passing Env.DeskPlace Env.Visitor Env.Floor Env.cl_DeskPlace_first Env.tl_DeskPlace_first) (h_M_move_2 : OkmL P w K mg base 4 L_move_2 "move" ["self", "number", "turn"]) (h_M_where_1 : OkmL P w K mg base 1 L_where_1 "where" ["self", "number"]) : Okf P w K mg base 5 "_law_moved" ["_law_floor", "_law_own", "_law_number", "_law_turn"] (runD 6 4 den_law_moved) := by
  have sc := sclaw_moved
  exact ok_has (N := Nlaw_moved) T.d_law_moved sc rfl (by decide) fun f cdv A outer s H E hr => ⟨_, ((bd_cons (sd_set (i := 4) sc.nd rfl (by first | exact Or.inl rfl | exact Or.inr rfl) (dd_rget (u1 hr) (ed_var 1) (ED.d ed_str)))
    (bd_cons (sd_set (i := 5) sc.nd rfl (by first | exact Or.inl rfl | exact Or.inr rfl) (dd_methL h_M_move_2 (hr.mono (by decide)) (ed_var 0) (ad_cons (ED.d (ed_var 2)) (ad_cons (ED.d (ed_var 3)) ad_nil))))
    (bd_cons (sd_if (td_cmp cIs (DD.e (dd_ix (DD.e (dd_rget (u1 hr) (ed_var 1) (ED.d ed_str))) (ed_var 2) (fun _ _ => rfl))) ed_non (nomark _)) (bd_cons (sd_put (dd_add (ed_var 3) (DD.e (dd_ix (DD.e (dd_ix (ed_var 4) ed_int (fun _ _ => rfl))) (DD.e (dd_mod (DD.e (dd_rget (u1 hr) (ed_var 1) (ED.d ed_str))) (DD.e (dd_b1 bLen (by rfl) T.n_len (by decide +kernel) (DD.e (dd_ix (ed_var 4) ed_int (fun _ _ => rfl))))))) (fun _ _ => rfl)))) (DD.e (dd_rget (u1 hr) (ed_var 1) (ED.d ed_str))) (ED.d (ed_var 2)))
    (bd_cons (sd_daug io_add (u1 hr) (ed_var 1) (ED.d ed_str) (ED.d ed_int))
    (bd_one (sd_ret (dd_cmp (cEq hr.units) (ed_var 5) (DD.e (dd_tup (ad_cons (ED.d ed_str) (ad_cons (dd_ix (ed_var 4) ed_int (fun _ _ => rfl)) ad_nil)))) (nomark _)))))) bd_nil)
    (bd_cons (sd_expr (DD.e (dd_rem (u66 hr) (DD.e (dd_rget (u1 hr) (ed_var 1) (ED.d ed_str))) (ED.d (ed_var 2)))))
    (bd_one (sd_ret (ED.d (ed_and (DD.e (dd_cmp (cEq hr.units) (ed_var 5) (DD.e (dd_tup (ad_cons (ED.d ed_str) (ad_cons (dd_ix (ed_var 4) ed_int (fun _ _ => rfl)) ad_nil)))) (nomark _))) (ed_one (DD.e (dd_cmp (cEq hr.units) (DD.e (dd_methL h_M_where_1 (hr.mono (by decide)) (ed_var 0) (ad_cons (ED.d (ed_var 2)) ad_nil))) (DD.e (dd_tup (ad_cons (dd_ix (ed_var 4) ed_int (fun _ _ => rfl)) (ad_cons (ED.d (ed_var 3)) (ad_cons (ED.d ed_non) ad_nil))))) (nomark _)))))))))))) : BD _ _ _ _ den_law_moved)⟩
noncomputable def g_law_moved : G := runD 6 4 den_law_moved
theorem eq_law_moved : ∀ ds S, g_law_moved ds S ≠ .no → runD 6 4 den_law_moved ds S = g_law_moved ds S := fun _ _ _ => rfl
theorem ok_law_moved (T : Tx K mg Env.Place Env.Passing Env.DeskPlace Env.Visitor Env.Floor Env.cl_DeskPlace_first Env.tl_DeskPlace_first) (h_M_move_2 : OkmL P w K mg base 4 L_move_2 "move" ["self", "number", "turn"]) (h_M_where_1 : OkmL P w K mg base 1 L_where_1 "where" ["self", "number"]) : Okf P w K mg base 5 "_law_moved" ["_law_floor", "_law_own", "_law_number", "_law_turn"] g_law_moved := (raw_law_moved T h_M_move_2 h_M_where_1).by eq_law_moved
abbrev splace_of : Stmt := (top 11)
abbrev Nplace_of : List Str := ["told", "word"]
theorem scplace_of : FnScope Nplace_of ["told"] (defScope splace_of) := ⟨rfl, rfl, rfl, by decide +kernel, rfl, by decide +kernel, by decide +kernel⟩
noncomputable def den_place_of : M Fl :=
    (dSeq (dSet 1 (dOp gIx (dVar 0) (dC (.int 0))))
    (dSeq (dIfS (dCmpT (gEq false) (dVar 1) (dC (.str "door"))) (dRet (dMake Env.Passing g_Passing___init__ (dCons (dD (dVar 0)) dNil))) dNx)
    (dSeq (dIfS (dCmpT (gEq false) (dVar 1) (dC (.str "way"))) M.no dNx)
    (dSeq (dIfS (dCmpT (gEq false) (dVar 1) (dC (.str "desk"))) (dRet (dMake Env.DeskPlace g_DeskPlace___init__ (dCons (dD (dVar 0)) dNil))) dNx)
    (dSeq (dIfS (dCmpT (gEq false) (dVar 1) (dC (.str "gate"))) M.no dNx)
    (dSeq (dIfS (dCmpT (gEq false) (dVar 1) (dC (.str "fork"))) M.no dNx)
    (dSeq (dIfS (dCmpT (gEq false) (dVar 1) (dC (.str "lend"))) M.no dNx)
    (dSeq (dIfS (dCmpT (gEq false) (dVar 1) (dC (.str "give"))) M.no dNx)
    (dRet (dD (dIf (dCmpT (gEq false) (dVar 1) (dC (.str "exit"))) (okD (dMake Env.Place g_Place___init__ (dCons (dD (dVar 0)) dNil))) (dC .non))))))))))))
theorem raw_place_of (T : Tx K mg Env.Place Env.Passing Env.DeskPlace Env.Visitor Env.Floor Env.cl_DeskPlace_first Env.tl_DeskPlace_first) (h_I_DeskPlace : Okc P w K mg base 3 "DeskPlace" Env.DeskPlace ["self", "told"] g_DeskPlace___init__) (h_I_Passing : Okc P w K mg base 2 "Passing" Env.Passing ["self", "told"] g_Passing___init__) (h_I_Place : Okc P w K mg base 1 "Place" Env.Place ["self", "told"] g_Place___init__) : Okf P w K mg base 5 "place_of" ["told"] (runD 2 1 den_place_of) := by
  have sc := scplace_of
  exact ok_has (N := Nplace_of) T.d_place_of sc rfl (by decide) fun f cdv A outer s H E hr => ⟨_, ((bd_cons (sd_set (i := 1) sc.nd rfl (by first | exact Or.inl rfl | exact Or.inr rfl) (dd_ix (ed_var 0) ed_int (fun _ _ => rfl)))
    (bd_cons (sd_if (td_cmp (cEq hr.units) (ed_var 1) ed_str (nomark _)) (bd_one (sd_ret (dd_make h_I_Passing (hr.mono (by decide)) (by rfl) (ad_cons (ED.d (ed_var 0)) ad_nil)))) bd_nil)
    (bd_cons (sd_if (td_cmp (cEq hr.units) (ed_var 1) ed_str (nomark _)) (bd_one sd_nv) bd_nil)
    (bd_cons (sd_if (td_cmp (cEq hr.units) (ed_var 1) ed_str (nomark _)) (bd_one (sd_ret (dd_make h_I_DeskPlace (hr.mono (by decide)) (by rfl) (ad_cons (ED.d (ed_var 0)) ad_nil)))) bd_nil)
    (bd_cons (sd_if (td_cmp (cEq hr.units) (ed_var 1) ed_str (nomark _)) (bd_one sd_nv) bd_nil)
    (bd_cons (sd_if (td_cmp (cEq hr.units) (ed_var 1) ed_str (nomark _)) (bd_one sd_nv) bd_nil)
    (bd_cons (sd_if (td_cmp (cEq hr.units) (ed_var 1) ed_str (nomark _)) (bd_one sd_nv) bd_nil)
    (bd_cons (sd_if (td_cmp (cEq hr.units) (ed_var 1) ed_str (nomark _)) (bd_one sd_nv) bd_nil)
    (bd_one (sd_ret (ED.d (ed_if (td_cmp (cEq hr.units) (ed_var 1) ed_str (nomark _)) (DD.e (dd_make h_I_Place (hr.mono (by decide)) (by rfl) (ad_cons (ED.d (ed_var 0)) ad_nil))) ed_non)))))))))))) : BD _ _ _ _ den_place_of)⟩
noncomputable def g_place_of : G := runD 2 1 den_place_of
theorem eq_place_of : ∀ ds S, g_place_of ds S ≠ .no → runD 2 1 den_place_of ds S = g_place_of ds S := fun _ _ _ => rfl
theorem wn_door_way : ((Str.ofString "door" : Str) = Str.ofString "way") = False := eq_false (by decide +kernel)
theorem wn_door_desk : ((Str.ofString "door" : Str) = Str.ofString "desk") = False := eq_false (by decide +kernel)
theorem wn_door_gate : ((Str.ofString "door" : Str) = Str.ofString "gate") = False := eq_false (by decide +kernel)
theorem wn_door_fork : ((Str.ofString "door" : Str) = Str.ofString "fork") = False := eq_false (by decide +kernel)
theorem wn_door_lend : ((Str.ofString "door" : Str) = Str.ofString "lend") = False := eq_false (by decide +kernel)
theorem wn_door_give : ((Str.ofString "door" : Str) = Str.ofString "give") = False := eq_false (by decide +kernel)
theorem wn_door_exit : ((Str.ofString "door" : Str) = Str.ofString "exit") = False := eq_false (by decide +kernel)
theorem wn_desk_door : ((Str.ofString "desk" : Str) = Str.ofString "door") = False := eq_false (by decide +kernel)
theorem wn_desk_way : ((Str.ofString "desk" : Str) = Str.ofString "way") = False := eq_false (by decide +kernel)
theorem wn_desk_gate : ((Str.ofString "desk" : Str) = Str.ofString "gate") = False := eq_false (by decide +kernel)
theorem wn_desk_fork : ((Str.ofString "desk" : Str) = Str.ofString "fork") = False := eq_false (by decide +kernel)
theorem wn_desk_lend : ((Str.ofString "desk" : Str) = Str.ofString "lend") = False := eq_false (by decide +kernel)
theorem wn_desk_give : ((Str.ofString "desk" : Str) = Str.ofString "give") = False := eq_false (by decide +kernel)
theorem wn_desk_exit : ((Str.ofString "desk" : Str) = Str.ofString "exit") = False := eq_false (by decide +kernel)
theorem wn_exit_door : ((Str.ofString "exit" : Str) = Str.ofString "door") = False := eq_false (by decide +kernel)
theorem wn_exit_way : ((Str.ofString "exit" : Str) = Str.ofString "way") = False := eq_false (by decide +kernel)
theorem wn_exit_desk : ((Str.ofString "exit" : Str) = Str.ofString "desk") = False := eq_false (by decide +kernel)
theorem wn_exit_gate : ((Str.ofString "exit" : Str) = Str.ofString "gate") = False := eq_false (by decide +kernel)
theorem wn_exit_fork : ((Str.ofString "exit" : Str) = Str.ofString "fork") = False := eq_false (by decide +kernel)
theorem wn_exit_lend : ((Str.ofString "exit" : Str) = Str.ofString "lend") = False := eq_false (by decide +kernel)
theorem wn_exit_give : ((Str.ofString "exit" : Str) = Str.ofString "give") = False := eq_false (by decide +kernel)
theorem po_ok (S : List Cell) (s : Sta) (hh : hereS s = true) (hp : s.isPool = false) : g_place_of [rowT s] S = .ok (.loc S.length) (S ++ [plcS s 0]) := by
  cases s with
  | pool n z => cases hp
  | doorA n r ts t =>
    have bb := qinit S Env.Passing mC_Passing_called mC_Passing_then (Sta.doorA n r ts t).row n t rfl rfl
    have a0 := row_0 (.doorA n r ts t)
    unfold rowT plcS
    obtain ⟨row, hrow⟩ : ∃ row, (Sta.doorA n r ts t).row = row := ⟨_, rfl⟩
    have b' : _ = _ := bb
    rw [hrow] at a0 ⊢
    change g_Passing___init__ [.loc S.length, .tup (Sta.doorA n r ts t).row] _ = _ at b'
    rw [hrow] at b'
    unfold Sta.kind at a0
    simp_arith [g_place_of, den_place_of, dMake, dFldA, dSetFA, dMethL, dMeth, insA, insD, dRGet, rdcD, dctD, keyD, dSt, dDAug, rol, spl, izl, gsl, Sdl, vcell, tilD, dFldAug, a0, b', wn_door_way, wn_door_desk, wn_door_gate, wn_door_fork, wn_door_lend, wn_door_give, wn_door_exit, wn_desk_door, wn_desk_way, wn_desk_gate, wn_desk_fork, wn_desk_lend, wn_desk_give, wn_desk_exit, wn_exit_door, wn_exit_way, wn_exit_desk, wn_exit_gate, wn_exit_fork, wn_exit_lend, wn_exit_give]
  | doorD n r a b c d e t =>
    have bb := qinit S Env.Passing mC_Passing_called mC_Passing_then (Sta.doorD n r a b c d e t).row n t rfl rfl
    have a0 := row_0 (.doorD n r a b c d e t)
    unfold rowT plcS
    obtain ⟨row, hrow⟩ : ∃ row, (Sta.doorD n r a b c d e t).row = row := ⟨_, rfl⟩
    have b' : _ = _ := bb
    rw [hrow] at a0 ⊢
    change g_Passing___init__ [.loc S.length, .tup (Sta.doorD n r a b c d e t).row] _ = _ at b'
    rw [hrow] at b'
    unfold Sta.kind at a0
    simp_arith [g_place_of, den_place_of, dMake, dFldA, dSetFA, dMethL, dMeth, insA, insD, dRGet, rdcD, dctD, keyD, dSt, dDAug, rol, spl, izl, gsl, Sdl, vcell, tilD, dFldAug, a0, b', wn_door_way, wn_door_desk, wn_door_gate, wn_door_fork, wn_door_lend, wn_door_give, wn_door_exit, wn_desk_door, wn_desk_way, wn_desk_gate, wn_desk_fork, wn_desk_lend, wn_desk_give, wn_desk_exit, wn_exit_door, wn_exit_way, wn_exit_desk, wn_exit_gate, wn_exit_fork, wn_exit_lend, wn_exit_give]
  | exit n =>
    have bb := pinit S Env.Place mC_Place_called (Sta.exit n).row n rfl
    have a0 := row_0 (.exit n)
    unfold rowT plcS
    obtain ⟨row, hrow⟩ : ∃ row, (Sta.exit n).row = row := ⟨_, rfl⟩
    have b' : _ = _ := bb
    rw [hrow] at a0 ⊢
    change g_Place___init__ [.loc S.length, .tup (Sta.exit n).row] _ = _ at b'
    rw [hrow] at b'
    unfold Sta.kind at a0
    simp_arith [g_place_of, den_place_of, dMake, dFldA, dSetFA, dMethL, dMeth, insA, insD, dRGet, rdcD, dctD, keyD, dSt, dDAug, rol, spl, izl, gsl, Sdl, vcell, tilD, dFldAug, a0, b', wn_door_way, wn_door_desk, wn_door_gate, wn_door_fork, wn_door_lend, wn_door_give, wn_door_exit, wn_desk_door, wn_desk_way, wn_desk_gate, wn_desk_fork, wn_desk_lend, wn_desk_give, wn_desk_exit, wn_exit_door, wn_exit_way, wn_exit_desk, wn_exit_gate, wn_exit_fork, wn_exit_lend, wn_exit_give]
  | desk n h ts k rs t =>
    have bb := kinit S (Sta.desk n h ts k rs t).row n t h _ _ k rfl rfl rfl rfl rfl rfl
    have a0 := row_0 (.desk n h ts k rs t)
    unfold rowT plcS
    obtain ⟨row, hrow⟩ : ∃ row, (Sta.desk n h ts k rs t).row = row := ⟨_, rfl⟩
    have b' : _ = _ := bb
    rw [hrow] at a0 ⊢
    change g_DeskPlace___init__ [.loc S.length, .tup (Sta.desk n h ts k rs t).row] _ = _ at b'
    rw [hrow] at b'
    unfold Sta.kind at a0
    simp_arith [g_place_of, den_place_of, dMake, dFldA, dSetFA, dMethL, dMeth, insA, insD, dRGet, rdcD, dctD, keyD, dSt, dDAug, rol, spl, izl, gsl, Sdl, vcell, tilD, dFldAug, a0, b', wn_door_way, wn_door_desk, wn_door_gate, wn_door_fork, wn_door_lend, wn_door_give, wn_door_exit, wn_desk_door, wn_desk_way, wn_desk_gate, wn_desk_fork, wn_desk_lend, wn_desk_give, wn_desk_exit, wn_exit_door, wn_exit_way, wn_exit_desk, wn_exit_gate, wn_exit_fork, wn_exit_lend, wn_exit_give]
  | _ => cases hh
theorem ok_place_of (T : Tx K mg Env.Place Env.Passing Env.DeskPlace Env.Visitor Env.Floor Env.cl_DeskPlace_first Env.tl_DeskPlace_first) (h_I_DeskPlace : Okc P w K mg base 3 "DeskPlace" Env.DeskPlace ["self", "told"] g_DeskPlace___init__) (h_I_Passing : Okc P w K mg base 2 "Passing" Env.Passing ["self", "told"] g_Passing___init__) (h_I_Place : Okc P w K mg base 1 "Place" Env.Place ["self", "told"] g_Place___init__) : Okf P w K mg base 5 "place_of" ["told"] g_place_of := (raw_place_of T h_I_DeskPlace h_I_Passing h_I_Place).by eq_place_of
noncomputable def L_can_3 : List (Addr × G) := [(Env.Place, g_Place_can), (Env.Passing, g_Passing_can), (Env.DeskPlace, g_DeskPlace_can)]
theorem ok_M_can_3 (T : Tx K mg Env.Place Env.Passing Env.DeskPlace Env.Visitor Env.Floor Env.cl_DeskPlace_first Env.tl_DeskPlace_first) (h_M_first_1 : OkmL P w K mg base 4 L_first_1 "first" ["self", "floor"]) (h_M_rests_at_1 : OkmL P w K mg base 1 L_rests_at_1 "rests_at" ["self", "turn"]) (h_M_served_1 : OkmL P w K mg base 2 L_served_1 "served" ["self", "floor"]) (h_M_where_1 : OkmL P w K mg base 1 L_where_1 "where" ["self", "number"]) : OkmL P w K mg base 5 L_can_3 "can" ["self", "floor", "number", "turn"] := fun p hp => by
  simp only [L_can_3, List.mem_cons, List.not_mem_nil, or_false] at hp
  rcases hp with rfl | rfl | rfl
  · exact ⟨okm_of T.m_Place_can_3 (by decide) fun F => ok_Place_can T  F, T.c_Place⟩
  · exact ⟨okm_of T.m_Passing_can_3 (by decide) fun F => ok_Passing_can T  F, T.c_Passing⟩
  · exact ⟨okm_of T.m_DeskPlace_can_3 (by decide) fun F => ok_DeskPlace_can T h_M_first_1 h_M_rests_at_1 h_M_served_1 h_M_where_1 F, T.c_DeskPlace⟩
abbrev sFloor___init__ : Stmt := (inClass (top 14) 0)
abbrev NFloor___init__ : List Str := ["self", "hall", "told"]
theorem scFloor___init__ : FnScope NFloor___init__ ["self", "hall"] (defScope sFloor___init__) := ⟨rfl, rfl, rfl, by decide +kernel, rfl, by decide +kernel, by decide +kernel⟩
noncomputable def fFloor___init__1b : M Fl :=
    (dSeq (dIfS (dCmpT (gEq false) (okD (dOp gIx (dVar 2) (dC (.int 0)))) (dC (.str "pool"))) (dDPut (dOp gIx (dVar 2) (dC (.int 2))) (okD (dFldA Cs_pools "pools" (dVar 0))) (dOp gIx (dVar 2) (dC (.int 1)))) (dSeq (dDPut (dCall g_place_of (dCons (dD (dVar 2)) dNil)) (okD (dFldA Cs_spots "spots" (dVar 0))) (dOp gIx (dVar 2) (dC (.int 1))))
    (dDPut (dSt (dLst dNil)) (okD (dFldA Cs_rows "rows" (dVar 0))) (dOp gIx (dVar 2) (dC (.int 1))))))
    (dIfS (dCmpT (gEq false) (okD (dOp gIx (dVar 2) (dC (.int 0)))) (dC (.str "door"))) (dDPut (dOp gIx (dVar 2) (dC (.int 2))) (okD (dFldA Cs_ranks "ranks" (dVar 0))) (dOp gIx (dVar 2) (dC (.int 1)))) dNx))
noncomputable def den_Floor___init__ : M Fl :=
    (dSeq (dSetFA Cs_spots "spots" dDct (dVar 0))
    (dSeq (dSetFA Cs_rows "rows" dDct (dVar 0))
    (dSeq (dSetFA Cs_pools "pools" dDct (dVar 0))
    (dSeq (dSetFA Cs_ranks "ranks" dDct (dVar 0))
    (dSeq (dSetFA Cs_guests "guests" (dSt (dLst dNil)) (dVar 0))
    (dForA (dD (dVar 1)) (dName 2) fFloor___init__1b))))))
theorem raw_Floor___init__ (T : Tx K mg Env.Place Env.Passing Env.DeskPlace Env.Visitor Env.Floor Env.cl_DeskPlace_first Env.tl_DeskPlace_first) (h_F_place_of : Okf P w K mg base 5 "place_of" ["told"] g_place_of) {f : Addr} {fd : FuncData} (F : Fun K "__init__" "Floor.__init__" sFloor___init__ f fd) : FnOk P w K mg base (L2N.CX P w) 6 f fd ["self", "hall"] (spG K (runD 3 2 den_Floor___init__)) := by
  have sc := scFloor___init__
  exact fn_ok (N := NFloor___init__) F sc rfl (by decide) fun cdv A outer s H E hr => ⟨_, ((bd_cons (sd_fldA (fa_spots T) (ed_var 0) dd_dct)
    (bd_cons (sd_fldA (fa_rows T) (ed_var 0) dd_dct)
    (bd_cons (sd_fldA (fa_pools T) (ed_var 0) dd_dct)
    (bd_cons (sd_fldA (fa_ranks T) (ed_var 0) dd_dct)
    (bd_cons (sd_fldA (fa_guests T) (ed_var 0) (dd_st (en_lst ad_nil)))
    (bd_one (sd_forA (passes_of rfl) rfl (ED.d (ed_var 1)) (gd_name (i := 2) sc.nd rfl (by first | exact Or.inl rfl | exact Or.inr rfl)) (bd_cons (sd_if (td_cmp (cEq hr.units) (DD.e (dd_ix (ed_var 2) ed_int (fun _ _ => rfl))) ed_str (nomark _)) (bd_one (sd_dput (u1 hr) (DD.e (dd_fldA (fa_pools T) (ed_var 0))) (dd_ix (ed_var 2) ed_int (fun _ _ => rfl)) (dd_ix (ed_var 2) ed_int (fun _ _ => rfl)))) (bd_cons (sd_dput (u1 hr) (DD.e (dd_fldA (fa_spots T) (ed_var 0))) (dd_ix (ed_var 2) ed_int (fun _ _ => rfl)) (dd_fn h_F_place_of (hr.mono (by decide)) (by rfl) (pol_of (L2N.takes_of rfl rfl rfl rfl)) (ad_cons (ED.d (ed_var 2)) ad_nil)))
    (bd_one (sd_dput (u1 hr) (DD.e (dd_fldA (fa_rows T) (ed_var 0))) (dd_ix (ed_var 2) ed_int (fun _ _ => rfl)) (dd_st (en_lst ad_nil))))))
    (bd_one (sd_if (td_cmp (cEq hr.units) (DD.e (dd_ix (ed_var 2) ed_int (fun _ _ => rfl))) ed_str (nomark _)) (bd_one (sd_dput (u1 hr) (DD.e (dd_fldA (fa_ranks T) (ed_var 0))) (dd_ix (ed_var 2) ed_int (fun _ _ => rfl)) (dd_ix (ed_var 2) ed_int (fun _ _ => rfl)))) bd_nil)))))))))) : BD _ _ _ _ den_Floor___init__)⟩
noncomputable def g_Floor___init__ : G := runD 3 2 den_Floor___init__
theorem eq_Floor___init__ : ∀ ds S, g_Floor___init__ ds S ≠ .no → runD 3 2 den_Floor___init__ ds S = g_Floor___init__ ds S := fun _ _ _ => rfl
def Fm.addSt (m : Fm) (s : Sta) : Fm := match s with
  | .pool n z => m.addP n z
  | s => if s.isDoor then (m.addPl s.name (plcS s 0)).addK s.name (rnkS s) else m.addPl s.name (plcS s 0)
theorem row_2d {s : Sta} (h : s.isDoor = true) : atI s.row 2 = some (.v (.int (rnkS s))) := by cases s <;> first | (cases h; done) | rfl
theorem kind_pool {s : Sta} (h : s.isPool = false) : (s.kind = Str.ofString "pool") = False := by cases s <;> first | (cases h; done) | exact eq_false (by simp only [Sta.kind]; decide +kernel)
theorem kind_door {s : Sta} (h : s.isDoor = true) : (s.kind = Str.ofString "door") = True := by cases s <;> first | (cases h; done) | exact eq_true rfl
theorem kind_ndoor {s : Sta} (h : s.isDoor = false) : (s.kind = Str.ofString "door") = False := by cases s <;> first | (cases h; done) | exact eq_false (by simp only [Sta.kind]; decide +kernel)
theorem init_step {L : Lay} {m : Fm} {S : List Cell} (h : FloorAt L m S) (s : Sta) (hh : hereS s = true) (h1 : s.name ∉ m.ns) (h2 : s.name ∉ m.ks) (h3 : s.name ∉ m.ps) (hz1 : m.ns.length < 1000000) (hz2 : m.ps.length < 1000000) (hz3 : m.ks.length < 1000000) (hs : D) : ∃ L' S', fFloor___init__1b ⟨[.d (.loc L.f), .d hs, .d (rowT s)], S⟩ = .ok .nx ⟨[.d (.loc L.f), .d hs, .d (rowT s)], S'⟩ ∧ FloorAt L' (m.addSt s) S' ∧ L'.f = L.f := by
  by_cases hp : s.isPool = true
  · cases s <;> first | (cases hp; done) | skip
    next n z =>
    have h3 : n ∉ m.ps := h3
    have hB := h.addP n z
    refine ⟨L, _, ?_, hB, rfl⟩
    have gf := h.gf
    have gpo := h.gpo
    have a0 : atI [D.v (V.str "pool"), D.v (V.str n), D.v (V.int z)] 0 = some (.v (.str "pool")) := rfl
    have a1 : atI [D.v (V.str "pool"), D.v (V.str n), D.v (V.int z)] 1 = some (.v (.str n)) := rfl
    have a2 : atI [D.v (V.str "pool"), D.v (V.str n), D.v (V.int z)] 2 = some (.v (.int z)) := rfl
    have pk : putD (izD m.ps m.pz) (.inr n) (.v (.int z)) = izD (m.ps ++ [n]) (fun x => if x = n then z else m.pz x) := iz_new h3
    have nd : (Str.ofString "pool" = Str.ofString "door") = False := eq_false (by decide +kernel)
    unfold rowT Sta.row
    simp_arith [fFloor___init__1b, dDPut, dFldA, dSetFA, dMethL, dMeth, insA, insD, dRGet, rdcD, dctD, keyD, dSt, dDAug, rol, spl, izl, gsl, Sdl, vcell, tilD, dFldAug, lkV1, lkV2, lkV3, lkV4, lkV5, ptV1, ptV2, ptV3, lnV, lkF1, lkF2, lkF3, lkF4, lkF5, lkFa, lkFb, lkFc, lkFd, lkFe, lkFf, lkFg, lkFh, lkFi, lkFj, lkFk, lkFl, lkFm, lkFn, lkFo, lkFp, mC_Place_called, mC_Passing_called, mC_DeskPlace_called, mC_Visitor_called, mC_Passing_then, mC_DeskPlace_then, mC_DeskPlace_hands, mC_DeskPlace_takes, mC_DeskPlace_is_ranked, mC_DeskPlace_rests, mC_DeskPlace_begun, mC_Visitor_since, mC_Visitor_until, mC_Visitor_things, mC_Visitor_grade, mC_Floor_guests, mC_Floor_rows, mC_Floor_spots, mC_Floor_ranks, mC_Floor_pools, lkXF_called, lkXF_then, lkXF_takes, lkXF_hands, lkXF_is_ranked, lkXF_rests, lkXF_begun, lkXF_pool, lkXF_rule, lkXF_goals, lkXF_moved, lkXF_can, lkXF_moves, lkXF_clock, lkXF_change, lkXF_first, lkXF_served, lkXF_rests_at, lkXF_chosen, lkXF_is_open, lnXF, lkDF_called, lkDF_then, lkDF_takes, lkDF_hands, lkDF_is_ranked, lkDF_rests, lkDF_begun, lkDF_pool, lkDF_rule, lkDF_goals, lkDF_moved, lkDF_can, lkDF_moves, lkDF_clock, lkDF_change, lkDF_first, lkDF_served, lkDF_rests_at, lkDF_chosen, lkDF_is_open, lnDF, lkKF_called, lkKF_then, lkKF_takes, lkKF_hands, lkKF_is_ranked, lkKF_rests, lkKF_begun, lkKF_pool, lkKF_rule, lkKF_goals, lkKF_moved, lkKF_can, lkKF_moves, lkKF_clock, lkKF_change, lkKF_first, lkKF_served, lkKF_rests_at, lkKF_chosen, lkKF_is_open, lnKF, gf, gpo, a0, a1, a2, pk, hz1, hz2, hz3, nd]
  · have hp : s.isPool = false := by simpa using hp
    have hA := h.addPl (n := s.name) h1 (plcS s 0)
    have po := po_ok S s hh hp
    have hq := h.push [plcS s 0]
    have gf1 := hq.gf
    have gsp1 := hq.gsp
    have ps1 : putD (spD L m.ns) (.inr s.name) (.loc S.length) = spD (L.add s.name S.length) (m.ns ++ [s.name]) := dc_new (f := L.pl) h1
    have pr1 : putD (roD L m.ns) (.inr s.name) (.loc (S.length + 1)) = roD (L.add s.name S.length) (m.ns ++ [s.name]) := dc_new (f := L.rw) h1
    have len2 : ((S ++ [plcS s 0]).set L.sp (.dct (spD (L.add s.name S.length) (m.ns ++ [s.name])))).length = S.length + 1 := by rw [List.length_set, List.length_append]; rfl
    have gf3 : (((S ++ [plcS s 0]).set L.sp (.dct (spD (L.add s.name S.length) (m.ns ++ [s.name])))) ++ [Cell.lst []])[L.f]? = some (.ins Env.Floor (FFL L)) := by
      rw [List.getElem?_append_left (by rw [len2]; have := h.lt (t := .f) rfl; omega), List.getElem?_set_ne (h.ne (t := .sp) (t' := .f) rfl rfl (by intro z; cases z))]
      exact gf1
    have gro3 : (((S ++ [plcS s 0]).set L.sp (.dct (spD (L.add s.name S.length) (m.ns ++ [s.name])))) ++ [Cell.lst []])[L.ro]? = some (.dct (roD L m.ns)) := by
      rw [List.getElem?_append_left (by rw [len2]; have := h.lt (t := .ro) rfl; omega), List.getElem?_set_ne (h.ne (t := .sp) (t' := .ro) rfl rfl (by intro z; cases z))]
      exact hq.gro
    have gf4 : ((((S ++ [plcS s 0]).set L.sp (.dct (spD (L.add s.name S.length) (m.ns ++ [s.name])))) ++ [Cell.lst []]).set L.ro (.dct (roD (L.add s.name S.length) (m.ns ++ [s.name]))))[L.f]? = some (.ins Env.Floor (FFL L)) := hA.gf
    have grk4 : ((((S ++ [plcS s 0]).set L.sp (.dct (spD (L.add s.name S.length) (m.ns ++ [s.name])))) ++ [Cell.lst []]).set L.ro (.dct (roD (L.add s.name S.length) (m.ns ++ [s.name]))))[L.rk]? = some (.dct (izD m.ks m.kz)) := hA.grk
    have ens : (m.addPl s.name (plcS s 0)).ks = m.ks := rfl
    have ekz : (m.addPl s.name (plcS s 0)).kz = m.kz := rfl
    have erk : (L.add s.name S.length).rk = L.rk := rfl
    have r0 := row_0 s
    have r1 := row_1 s
    have kp := kind_pool hp
    have ea : m.addSt s = if s.isDoor then (m.addPl s.name (plcS s 0)).addK s.name (rnkS s) else m.addPl s.name (plcS s 0) := by
      unfold Fm.addSt
      cases s <;> first | (cases hp; done) | rfl
    by_cases hd : s.isDoor = true
    · have pk : putD (izD m.ks m.kz) (.inr s.name) (.v (.int (rnkS s))) = izD (m.ks ++ [s.name]) (fun x => if x = s.name then (rnkS s) else m.kz x) := iz_new h2
      have hB := hA.addK s.name (rnkS s)
      have kd := kind_door hd
      have r2 := row_2d hd
      rw [if_pos hd] at ea
      rw [ea]
      refine ⟨L.add s.name S.length, _, ?_, hB, rfl⟩
      unfold rowT at *
      generalize s.row = row at *
      generalize s.kind = kw at *
      generalize rnkS s = rw' at *
      simp_arith [fFloor___init__1b, dDPut, dFldA, dSetFA, dMethL, dMeth, insA, insD, dRGet, rdcD, dctD, keyD, dSt, dDAug, rol, spl, izl, gsl, Sdl, vcell, tilD, dFldAug, lkV1, lkV2, lkV3, lkV4, lkV5, ptV1, ptV2, ptV3, lnV, lkF1, lkF2, lkF3, lkF4, lkF5, lkFa, lkFb, lkFc, lkFd, lkFe, lkFf, lkFg, lkFh, lkFi, lkFj, lkFk, lkFl, lkFm, lkFn, lkFo, lkFp, mC_Place_called, mC_Passing_called, mC_DeskPlace_called, mC_Visitor_called, mC_Passing_then, mC_DeskPlace_then, mC_DeskPlace_hands, mC_DeskPlace_takes, mC_DeskPlace_is_ranked, mC_DeskPlace_rests, mC_DeskPlace_begun, mC_Visitor_since, mC_Visitor_until, mC_Visitor_things, mC_Visitor_grade, mC_Floor_guests, mC_Floor_rows, mC_Floor_spots, mC_Floor_ranks, mC_Floor_pools, lkXF_called, lkXF_then, lkXF_takes, lkXF_hands, lkXF_is_ranked, lkXF_rests, lkXF_begun, lkXF_pool, lkXF_rule, lkXF_goals, lkXF_moved, lkXF_can, lkXF_moves, lkXF_clock, lkXF_change, lkXF_first, lkXF_served, lkXF_rests_at, lkXF_chosen, lkXF_is_open, lnXF, lkDF_called, lkDF_then, lkDF_takes, lkDF_hands, lkDF_is_ranked, lkDF_rests, lkDF_begun, lkDF_pool, lkDF_rule, lkDF_goals, lkDF_moved, lkDF_can, lkDF_moves, lkDF_clock, lkDF_change, lkDF_first, lkDF_served, lkDF_rests_at, lkDF_chosen, lkDF_is_open, lnDF, lkKF_called, lkKF_then, lkKF_takes, lkKF_hands, lkKF_is_ranked, lkKF_rests, lkKF_begun, lkKF_pool, lkKF_rule, lkKF_goals, lkKF_moved, lkKF_can, lkKF_moves, lkKF_clock, lkKF_change, lkKF_first, lkKF_served, lkKF_rests_at, lkKF_chosen, lkKF_is_open, lnKF, po, gf1, gsp1, ps1, pr1, len2, gf3, gro3, gf4, grk4, r0, r1, r2, hz1, hz2, hz3, ens, ekz, erk, kp, kd, pk]
    · have hd : s.isDoor = false := by simpa using hd
      have kd := kind_ndoor hd
      rw [if_neg (by rw [hd]; exact Bool.false_ne_true)] at ea
      rw [ea]
      refine ⟨L.add s.name S.length, _, ?_, hA, rfl⟩
      unfold rowT at *
      generalize s.row = row at *
      generalize s.kind = kw at *
      simp_arith [fFloor___init__1b, dDPut, dFldA, dSetFA, dMethL, dMeth, insA, insD, dRGet, rdcD, dctD, keyD, dSt, dDAug, rol, spl, izl, gsl, Sdl, vcell, tilD, dFldAug, lkV1, lkV2, lkV3, lkV4, lkV5, ptV1, ptV2, ptV3, lnV, lkF1, lkF2, lkF3, lkF4, lkF5, lkFa, lkFb, lkFc, lkFd, lkFe, lkFf, lkFg, lkFh, lkFi, lkFj, lkFk, lkFl, lkFm, lkFn, lkFo, lkFp, mC_Place_called, mC_Passing_called, mC_DeskPlace_called, mC_Visitor_called, mC_Passing_then, mC_DeskPlace_then, mC_DeskPlace_hands, mC_DeskPlace_takes, mC_DeskPlace_is_ranked, mC_DeskPlace_rests, mC_DeskPlace_begun, mC_Visitor_since, mC_Visitor_until, mC_Visitor_things, mC_Visitor_grade, mC_Floor_guests, mC_Floor_rows, mC_Floor_spots, mC_Floor_ranks, mC_Floor_pools, lkXF_called, lkXF_then, lkXF_takes, lkXF_hands, lkXF_is_ranked, lkXF_rests, lkXF_begun, lkXF_pool, lkXF_rule, lkXF_goals, lkXF_moved, lkXF_can, lkXF_moves, lkXF_clock, lkXF_change, lkXF_first, lkXF_served, lkXF_rests_at, lkXF_chosen, lkXF_is_open, lnXF, lkDF_called, lkDF_then, lkDF_takes, lkDF_hands, lkDF_is_ranked, lkDF_rests, lkDF_begun, lkDF_pool, lkDF_rule, lkDF_goals, lkDF_moved, lkDF_can, lkDF_moves, lkDF_clock, lkDF_change, lkDF_first, lkDF_served, lkDF_rests_at, lkDF_chosen, lkDF_is_open, lnDF, lkKF_called, lkKF_then, lkKF_takes, lkKF_hands, lkKF_is_ranked, lkKF_rests, lkKF_begun, lkKF_pool, lkKF_rule, lkKF_goals, lkKF_moved, lkKF_can, lkKF_moves, lkKF_clock, lkKF_change, lkKF_first, lkKF_served, lkKF_rests_at, lkKF_chosen, lkKF_is_open, lnKF, po, gf1, gsp1, ps1, pr1, len2, gf3, gro3, gf4, grk4, r0, r1, hz1, hz2, hz3, ens, ekz, erk, kp, kd]
def Good : Fm → List Sta → Prop
  | _, [] => True
  | m, s :: r => (hereS s = true ∧ s.name ∉ m.ns ∧ s.name ∉ m.ks ∧ s.name ∉ m.ps ∧ m.ns.length < 1000 ∧ m.ps.length < 1000 ∧ m.ks.length < 1000) ∧ Good (m.addSt s) r
theorem init_loop : ∀ (hall : List Sta) (L : Lay) (m : Fm) (S : List Cell) (hs : D) (x : Slot), FloorAt L m S → Good m hall → ∃ L' S' y, itF (dName 2) fFloor___init__1b (hall.map rowT) ⟨[.d (.loc L.f), .d hs, x], S⟩ = .ok .nx ⟨[.d (.loc L.f), .d hs, y], S'⟩ ∧ FloorAt L' (hall.foldl Fm.addSt m) S' ∧ L'.f = L.f
  | [], L, m, S, hs, x, h, _ => ⟨L, S, x, rfl, h, rfl⟩
  | s :: r, L, m, S, hs, x, h, g => by
    obtain ⟨⟨g0, g1, g2, g3, g4, g5, g6⟩, g7⟩ := g
    obtain ⟨L1, S1, e1, h1, f1⟩ := init_step h s g0 g1 g2 g3 (by omega) (by omega) (by omega) hs
    obtain ⟨L2, S2, y, e2, h2, f2⟩ := init_loop r L1 (m.addSt s) S1 hs (.d (rowT s)) h1 g7
    refine ⟨L2, S2, y, ?_, h2, f2.trans f1⟩
    rw [List.map_cons, itF_next (c1 := ⟨[.d (.loc L.f), .d hs, .d (rowT s)], S⟩) rfl e1, ← f1]
    exact e2
theorem finit (S : List Cell) (O : List (Nat × Cell)) (hO : ∀ (i a : Nat) (c : Cell), O[i]? = some (a, c) → S[a]? = some c) (hI : ∀ (i j a : Nat) (c c' : Cell), O[i]? = some (a, c) → O[j]? = some (a, c') → i = j) (hall : List Sta) (g : Good (fm0 O) hall) :
    ∃ L S', g_Floor___init__ [.loc S.length, .lst (hall.map rowT)] (S ++ [.ins Env.Floor []]) = .ok (.v .non) S' ∧ FloorAt L (hall.foldl Fm.addSt (fm0 O)) S' ∧ L.f = S.length := by
  have h0 := floor0 S O hO hI
  obtain ⟨L, S', y, e, h, f⟩ := init_loop hall (lay0 S.length) (fm0 O) _ (.lst (hall.map rowT)) .no h0 g
  refine ⟨L, S', ?_, h, f⟩
  have e' : itF (dName 2) fFloor___init__1b (hall.map rowT) ⟨[.d (.loc S.length), .d (.lst (hall.map rowT)), .no], S ++ [.ins Env.Floor (FFL (lay0 S.length)), .dct [], .dct [], .dct [], .dct [], .lst []]⟩ = _ := e
  have q1 : ∀ x : D, putFD "spots" x [] = ([("spots", x)] : List (Str × D)) := fun _ => rfl
  have q2 : ∀ x y : D, putFD "rows" y [("spots", x)] = ([("spots", x), ("rows", y)] : List (Str × D)) := fun _ _ => rfl
  have q3 : ∀ x y z : D, putFD "pools" z [("spots", x), ("rows", y)] = ([("spots", x), ("rows", y), ("pools", z)] : List (Str × D)) := fun _ _ _ => rfl
  have q4 : ∀ x y z u : D, putFD "ranks" u [("spots", x), ("rows", y), ("pools", z)] = ([("spots", x), ("rows", y), ("pools", z), ("ranks", u)] : List (Str × D)) := fun _ _ _ _ => rfl
  have q5 : ∀ x y z u w : D, putFD "guests" w [("spots", x), ("rows", y), ("pools", z), ("ranks", u)] = ([("spots", x), ("rows", y), ("pools", z), ("ranks", u), ("guests", w)] : List (Str × D)) := fun _ _ _ _ _ => rfl
  have gt : ∀ (x : Cell) (T : List Cell), (S ++ x :: T)[S.length]? = some x := fun x T => by simp
  have st : ∀ (x y : Cell) (T : List Cell), (S ++ x :: T).set S.length y = S ++ y :: T := fun x y T => by simp
  have ln : ∀ (x : Cell) (T : List Cell), (S ++ x :: T).length = S.length + T.length + 1 := fun x T => by simp; omega
  have ap : ∀ (x : Cell) (T U : List Cell), (S ++ x :: T) ++ U = S ++ x :: (T ++ U) := fun x T U => by simp
  have ff : FFL (lay0 S.length) = ([("spots", .loc (S.length + 1)), ("rows", .loc (S.length + 2)), ("pools", .loc (S.length + 3)), ("ranks", .loc (S.length + 4)), ("guests", .loc (S.length + 5))] : List (Str × D)) := rfl
  rw [ff] at e'
  generalize hall.map rowT = HR at *
  simp_arith [g_Floor___init__, den_Floor___init__, dDct, dForA, dForX, dFldA, dSetFA, dMethL, dMeth, insA, insD, dRGet, rdcD, dctD, keyD, dSt, dDAug, rol, spl, izl, gsl, Sdl, vcell, tilD, dFldAug, lkV1, lkV2, lkV3, lkV4, lkV5, ptV1, ptV2, ptV3, lnV, lkF1, lkF2, lkF3, lkF4, lkF5, lkFa, lkFb, lkFc, lkFd, lkFe, lkFf, lkFg, lkFh, lkFi, lkFj, lkFk, lkFl, lkFm, lkFn, lkFo, lkFp, mC_Place_called, mC_Passing_called, mC_DeskPlace_called, mC_Visitor_called, mC_Passing_then, mC_DeskPlace_then, mC_DeskPlace_hands, mC_DeskPlace_takes, mC_DeskPlace_is_ranked, mC_DeskPlace_rests, mC_DeskPlace_begun, mC_Visitor_since, mC_Visitor_until, mC_Visitor_things, mC_Visitor_grade, mC_Floor_guests, mC_Floor_rows, mC_Floor_spots, mC_Floor_ranks, mC_Floor_pools, lkXF_called, lkXF_then, lkXF_takes, lkXF_hands, lkXF_is_ranked, lkXF_rests, lkXF_begun, lkXF_pool, lkXF_rule, lkXF_goals, lkXF_moved, lkXF_can, lkXF_moves, lkXF_clock, lkXF_change, lkXF_first, lkXF_served, lkXF_rests_at, lkXF_chosen, lkXF_is_open, lnXF, lkDF_called, lkDF_then, lkDF_takes, lkDF_hands, lkDF_is_ranked, lkDF_rests, lkDF_begun, lkDF_pool, lkDF_rule, lkDF_goals, lkDF_moved, lkDF_can, lkDF_moves, lkDF_clock, lkDF_change, lkDF_first, lkDF_served, lkDF_rests_at, lkDF_chosen, lkDF_is_open, lnDF, lkKF_called, lkKF_then, lkKF_takes, lkKF_hands, lkKF_is_ranked, lkKF_rests, lkKF_begun, lkKF_pool, lkKF_rule, lkKF_goals, lkKF_moved, lkKF_can, lkKF_moves, lkKF_clock, lkKF_change, lkKF_first, lkKF_served, lkKF_rests_at, lkKF_chosen, lkKF_is_open, lnKF, q1, q2, q3, q4, q5, gt, st, ln, ap, Nat.add_zero, Nat.add_assoc, e']
theorem ok_Floor___init__ (T : Tx K mg Env.Place Env.Passing Env.DeskPlace Env.Visitor Env.Floor Env.cl_DeskPlace_first Env.tl_DeskPlace_first) (h_F_place_of : Okf P w K mg base 5 "place_of" ["told"] g_place_of) {f : Addr} {fd : FuncData} (F : Fun K "__init__" "Floor.__init__" sFloor___init__ f fd) : FnOk P w K mg base (L2N.CX P w) 6 f fd ["self", "hall"] (spG K g_Floor___init__) := FnOk.by (raw_Floor___init__ T h_F_place_of F) eq_Floor___init__
abbrev sFloor_can : Stmt := (inClass (top 14) 7)
abbrev NFloor_can : List Str := ["self", "number", "turn"]
theorem scFloor_can : FnScope NFloor_can ["self", "number", "turn"] (defScope sFloor_can) := ⟨rfl, rfl, rfl, by decide +kernel, rfl, by decide +kernel, by decide +kernel⟩
noncomputable def den_Floor_can : M Fl :=
    (dRet (dMethL L_can_3 "can" (okD (dMethL L_place_1 "place" (dVar 0) (dCons (dD (dVar 1)) dNil))) (dCons (dD (dVar 0)) (dCons (dD (dVar 1)) (dCons (dD (dVar 2)) dNil)))))
theorem raw_Floor_can (T : Tx K mg Env.Place Env.Passing Env.DeskPlace Env.Visitor Env.Floor Env.cl_DeskPlace_first Env.tl_DeskPlace_first) (h_M_can_3 : OkmL P w K mg base 5 L_can_3 "can" ["self", "floor", "number", "turn"]) (h_M_place_1 : OkmL P w K mg base 1 L_place_1 "place" ["self", "number"]) {f : Addr} {fd : FuncData} (F : Fun K "can" "Floor.can" sFloor_can f fd) : FnOk P w K mg base (L2N.CX P w) 6 f fd ["self", "number", "turn"] (spG K (runD 3 3 den_Floor_can)) := by
  have sc := scFloor_can
  exact fn_ok (N := NFloor_can) F sc rfl (by decide) fun cdv A outer s H E hr => ⟨_, ((bd_one (sd_ret (dd_methL h_M_can_3 (hr.mono (by decide)) (DD.e (dd_methL h_M_place_1 (hr.mono (by decide)) (ed_var 0) (ad_cons (ED.d (ed_var 1)) ad_nil))) (ad_cons (ED.d (ed_var 0)) (ad_cons (ED.d (ed_var 1)) (ad_cons (ED.d (ed_var 2)) ad_nil)))))) : BD _ _ _ _ den_Floor_can)⟩
noncomputable def g_Floor_can : G := runD 3 3 den_Floor_can
theorem eq_Floor_can : ∀ ds S, g_Floor_can ds S ≠ .no → runD 3 3 den_Floor_can ds S = g_Floor_can ds S := fun _ _ _ => rfl
def canS (m : Fm) (k : Nat) (v : Vz) (z : Int) : Sta → Bool
  | .doorA n r ts t => true
  | .doorD n r a b c d e t => true
  | .exit n => false
  | .desk n h ts kk rs t => canDk m v.called h kk rs (k : Nat) v.til z
  | _ => false
theorem fcan_ok {L : Lay} {m : Fm} {S : List Cell} (h : FloorAt L m S) {k : Nat} {v : Vz} (hk : m.vis[k]? = some v) (hn : v.called ∈ m.ns) (hr : RowIn m v.called) (nd : (m.rows v.called).Nodup) (hz : (m.rows v.called).length ≤ 1000) (s : Sta) (c : Int) (hs : m.plc v.called = plcS s c) (hname : s.name = v.called) (hh : hereS s = true) (hp : s.isPool = false) (hsm : s.small) (z : Int) : ∃ U, g_Floor_can [.loc L.f, .v (.int (k : Nat)), .v (.int z)] S = .ok (.v (.bl (canS m k v z s))) (S ++ U) := by
  have gf := h.gf
  have p := place_ok h hk hn
  have gp := h.gpl hn
  rw [hs] at gp
  cases s with
  | pool n z => cases hp
  | doorA n r ts t =>
    refine ⟨[], ?_⟩
    rw [List.append_nil]
    unfold plcS at gp
    simp_arith [g_Floor_can, den_Floor_can, g_Passing_can, den_Passing_can, canS, dFldA, dSetFA, dMethL, dMeth, insA, insD, dRGet, rdcD, dctD, keyD, dSt, dDAug, rol, spl, izl, gsl, Sdl, vcell, tilD, dFldAug, gf, lkV1, lkV2, lkV3, lkV4, lkV5, ptV1, ptV2, ptV3, lnV, lkF1, lkF2, lkF3, lkF4, lkF5, lkFa, lkFb, lkFc, lkFd, lkFe, lkFf, lkFg, lkFh, lkFi, lkFj, lkFk, lkFl, lkFm, lkFn, lkFo, lkFp, mC_Place_called, mC_Passing_called, mC_DeskPlace_called, mC_Visitor_called, mC_Passing_then, mC_DeskPlace_then, mC_DeskPlace_hands, mC_DeskPlace_takes, mC_DeskPlace_is_ranked, mC_DeskPlace_rests, mC_DeskPlace_begun, mC_Visitor_since, mC_Visitor_until, mC_Visitor_things, mC_Visitor_grade, mC_Floor_guests, mC_Floor_rows, mC_Floor_spots, mC_Floor_ranks, mC_Floor_pools, lkXF_called, lkXF_then, lkXF_takes, lkXF_hands, lkXF_is_ranked, lkXF_rests, lkXF_begun, lkXF_pool, lkXF_rule, lkXF_goals, lkXF_moved, lkXF_can, lkXF_moves, lkXF_clock, lkXF_change, lkXF_first, lkXF_served, lkXF_rests_at, lkXF_chosen, lkXF_is_open, lnXF, lkDF_called, lkDF_then, lkDF_takes, lkDF_hands, lkDF_is_ranked, lkDF_rests, lkDF_begun, lkDF_pool, lkDF_rule, lkDF_goals, lkDF_moved, lkDF_can, lkDF_moves, lkDF_clock, lkDF_change, lkDF_first, lkDF_served, lkDF_rests_at, lkDF_chosen, lkDF_is_open, lnDF, lkKF_called, lkKF_then, lkKF_takes, lkKF_hands, lkKF_is_ranked, lkKF_rests, lkKF_begun, lkKF_pool, lkKF_rule, lkKF_goals, lkKF_moved, lkKF_can, lkKF_moves, lkKF_clock, lkKF_change, lkKF_first, lkKF_served, lkKF_rests_at, lkKF_chosen, lkKF_is_open, lnKF, L_place_1, L_can_3, List.lookup_cons, beq_self_eq_true, nE_Place_Passing, nE_Place_DeskPlace, nE_Place_Visitor, nE_Place_Floor, nE_Passing_Place, nE_Passing_DeskPlace, nE_Passing_Visitor, nE_Passing_Floor, nE_DeskPlace_Place, nE_DeskPlace_Passing, nE_DeskPlace_Visitor, nE_DeskPlace_Floor, nE_Visitor_Place, nE_Visitor_Passing, nE_Visitor_DeskPlace, nE_Visitor_Floor, nE_Floor_Place, nE_Floor_Passing, nE_Floor_DeskPlace, nE_Floor_Visitor, p, gp]
  | doorD n r a b c d e t =>
    refine ⟨[], ?_⟩
    rw [List.append_nil]
    unfold plcS at gp
    simp_arith [g_Floor_can, den_Floor_can, g_Passing_can, den_Passing_can, canS, dFldA, dSetFA, dMethL, dMeth, insA, insD, dRGet, rdcD, dctD, keyD, dSt, dDAug, rol, spl, izl, gsl, Sdl, vcell, tilD, dFldAug, gf, lkV1, lkV2, lkV3, lkV4, lkV5, ptV1, ptV2, ptV3, lnV, lkF1, lkF2, lkF3, lkF4, lkF5, lkFa, lkFb, lkFc, lkFd, lkFe, lkFf, lkFg, lkFh, lkFi, lkFj, lkFk, lkFl, lkFm, lkFn, lkFo, lkFp, mC_Place_called, mC_Passing_called, mC_DeskPlace_called, mC_Visitor_called, mC_Passing_then, mC_DeskPlace_then, mC_DeskPlace_hands, mC_DeskPlace_takes, mC_DeskPlace_is_ranked, mC_DeskPlace_rests, mC_DeskPlace_begun, mC_Visitor_since, mC_Visitor_until, mC_Visitor_things, mC_Visitor_grade, mC_Floor_guests, mC_Floor_rows, mC_Floor_spots, mC_Floor_ranks, mC_Floor_pools, lkXF_called, lkXF_then, lkXF_takes, lkXF_hands, lkXF_is_ranked, lkXF_rests, lkXF_begun, lkXF_pool, lkXF_rule, lkXF_goals, lkXF_moved, lkXF_can, lkXF_moves, lkXF_clock, lkXF_change, lkXF_first, lkXF_served, lkXF_rests_at, lkXF_chosen, lkXF_is_open, lnXF, lkDF_called, lkDF_then, lkDF_takes, lkDF_hands, lkDF_is_ranked, lkDF_rests, lkDF_begun, lkDF_pool, lkDF_rule, lkDF_goals, lkDF_moved, lkDF_can, lkDF_moves, lkDF_clock, lkDF_change, lkDF_first, lkDF_served, lkDF_rests_at, lkDF_chosen, lkDF_is_open, lnDF, lkKF_called, lkKF_then, lkKF_takes, lkKF_hands, lkKF_is_ranked, lkKF_rests, lkKF_begun, lkKF_pool, lkKF_rule, lkKF_goals, lkKF_moved, lkKF_can, lkKF_moves, lkKF_clock, lkKF_change, lkKF_first, lkKF_served, lkKF_rests_at, lkKF_chosen, lkKF_is_open, lnKF, L_place_1, L_can_3, List.lookup_cons, beq_self_eq_true, nE_Place_Passing, nE_Place_DeskPlace, nE_Place_Visitor, nE_Place_Floor, nE_Passing_Place, nE_Passing_DeskPlace, nE_Passing_Visitor, nE_Passing_Floor, nE_DeskPlace_Place, nE_DeskPlace_Passing, nE_DeskPlace_Visitor, nE_DeskPlace_Floor, nE_Visitor_Place, nE_Visitor_Passing, nE_Visitor_DeskPlace, nE_Visitor_Floor, nE_Floor_Place, nE_Floor_Passing, nE_Floor_DeskPlace, nE_Floor_Visitor, p, gp]
  | exit n =>
    refine ⟨[], ?_⟩
    rw [List.append_nil]
    unfold plcS at gp
    simp_arith [g_Floor_can, den_Floor_can, g_Place_can, den_Place_can, canS, dFldA, dSetFA, dMethL, dMeth, insA, insD, dRGet, rdcD, dctD, keyD, dSt, dDAug, rol, spl, izl, gsl, Sdl, vcell, tilD, dFldAug, gf, lkV1, lkV2, lkV3, lkV4, lkV5, ptV1, ptV2, ptV3, lnV, lkF1, lkF2, lkF3, lkF4, lkF5, lkFa, lkFb, lkFc, lkFd, lkFe, lkFf, lkFg, lkFh, lkFi, lkFj, lkFk, lkFl, lkFm, lkFn, lkFo, lkFp, mC_Place_called, mC_Passing_called, mC_DeskPlace_called, mC_Visitor_called, mC_Passing_then, mC_DeskPlace_then, mC_DeskPlace_hands, mC_DeskPlace_takes, mC_DeskPlace_is_ranked, mC_DeskPlace_rests, mC_DeskPlace_begun, mC_Visitor_since, mC_Visitor_until, mC_Visitor_things, mC_Visitor_grade, mC_Floor_guests, mC_Floor_rows, mC_Floor_spots, mC_Floor_ranks, mC_Floor_pools, lkXF_called, lkXF_then, lkXF_takes, lkXF_hands, lkXF_is_ranked, lkXF_rests, lkXF_begun, lkXF_pool, lkXF_rule, lkXF_goals, lkXF_moved, lkXF_can, lkXF_moves, lkXF_clock, lkXF_change, lkXF_first, lkXF_served, lkXF_rests_at, lkXF_chosen, lkXF_is_open, lnXF, lkDF_called, lkDF_then, lkDF_takes, lkDF_hands, lkDF_is_ranked, lkDF_rests, lkDF_begun, lkDF_pool, lkDF_rule, lkDF_goals, lkDF_moved, lkDF_can, lkDF_moves, lkDF_clock, lkDF_change, lkDF_first, lkDF_served, lkDF_rests_at, lkDF_chosen, lkDF_is_open, lnDF, lkKF_called, lkKF_then, lkKF_takes, lkKF_hands, lkKF_is_ranked, lkKF_rests, lkKF_begun, lkKF_pool, lkKF_rule, lkKF_goals, lkKF_moved, lkKF_can, lkKF_moves, lkKF_clock, lkKF_change, lkKF_first, lkKF_served, lkKF_rests_at, lkKF_chosen, lkKF_is_open, lnKF, L_place_1, L_can_3, List.lookup_cons, beq_self_eq_true, nE_Place_Passing, nE_Place_DeskPlace, nE_Place_Visitor, nE_Place_Floor, nE_Passing_Place, nE_Passing_DeskPlace, nE_Passing_Visitor, nE_Passing_Floor, nE_DeskPlace_Place, nE_DeskPlace_Passing, nE_DeskPlace_Visitor, nE_DeskPlace_Floor, nE_Visitor_Place, nE_Visitor_Passing, nE_Visitor_DeskPlace, nE_Visitor_Floor, nE_Floor_Place, nE_Floor_Passing, nE_Floor_DeskPlace, nE_Floor_Visitor, p, gp]
  | desk n h' ts kk rs t =>
    have hname : n = v.called := hname
    subst hname
    have hrz : rs.length ≤ 1000 := hsm.2
    obtain ⟨U, e⟩ := dcan_ok h hk hn hr nd hz hrz hs z
    refine ⟨U, ?_⟩
    unfold plcS at gp
    simp_arith [g_Floor_can, den_Floor_can, canS, dFldA, dSetFA, dMethL, dMeth, insA, insD, dRGet, rdcD, dctD, keyD, dSt, dDAug, rol, spl, izl, gsl, Sdl, vcell, tilD, dFldAug, gf, lkV1, lkV2, lkV3, lkV4, lkV5, ptV1, ptV2, ptV3, lnV, lkF1, lkF2, lkF3, lkF4, lkF5, lkFa, lkFb, lkFc, lkFd, lkFe, lkFf, lkFg, lkFh, lkFi, lkFj, lkFk, lkFl, lkFm, lkFn, lkFo, lkFp, mC_Place_called, mC_Passing_called, mC_DeskPlace_called, mC_Visitor_called, mC_Passing_then, mC_DeskPlace_then, mC_DeskPlace_hands, mC_DeskPlace_takes, mC_DeskPlace_is_ranked, mC_DeskPlace_rests, mC_DeskPlace_begun, mC_Visitor_since, mC_Visitor_until, mC_Visitor_things, mC_Visitor_grade, mC_Floor_guests, mC_Floor_rows, mC_Floor_spots, mC_Floor_ranks, mC_Floor_pools, lkXF_called, lkXF_then, lkXF_takes, lkXF_hands, lkXF_is_ranked, lkXF_rests, lkXF_begun, lkXF_pool, lkXF_rule, lkXF_goals, lkXF_moved, lkXF_can, lkXF_moves, lkXF_clock, lkXF_change, lkXF_first, lkXF_served, lkXF_rests_at, lkXF_chosen, lkXF_is_open, lnXF, lkDF_called, lkDF_then, lkDF_takes, lkDF_hands, lkDF_is_ranked, lkDF_rests, lkDF_begun, lkDF_pool, lkDF_rule, lkDF_goals, lkDF_moved, lkDF_can, lkDF_moves, lkDF_clock, lkDF_change, lkDF_first, lkDF_served, lkDF_rests_at, lkDF_chosen, lkDF_is_open, lnDF, lkKF_called, lkKF_then, lkKF_takes, lkKF_hands, lkKF_is_ranked, lkKF_rests, lkKF_begun, lkKF_pool, lkKF_rule, lkKF_goals, lkKF_moved, lkKF_can, lkKF_moves, lkKF_clock, lkKF_change, lkKF_first, lkKF_served, lkKF_rests_at, lkKF_chosen, lkKF_is_open, lnKF, L_place_1, L_can_3, List.lookup_cons, beq_self_eq_true, nE_Place_Passing, nE_Place_DeskPlace, nE_Place_Visitor, nE_Place_Floor, nE_Passing_Place, nE_Passing_DeskPlace, nE_Passing_Visitor, nE_Passing_Floor, nE_DeskPlace_Place, nE_DeskPlace_Passing, nE_DeskPlace_Visitor, nE_DeskPlace_Floor, nE_Visitor_Place, nE_Visitor_Passing, nE_Visitor_DeskPlace, nE_Visitor_Floor, nE_Floor_Place, nE_Floor_Passing, nE_Floor_DeskPlace, nE_Floor_Visitor, p, gp, e]
  | _ => cases hh
theorem ok_Floor_can (T : Tx K mg Env.Place Env.Passing Env.DeskPlace Env.Visitor Env.Floor Env.cl_DeskPlace_first Env.tl_DeskPlace_first) (h_M_can_3 : OkmL P w K mg base 5 L_can_3 "can" ["self", "floor", "number", "turn"]) (h_M_place_1 : OkmL P w K mg base 1 L_place_1 "place" ["self", "number"]) {f : Addr} {fd : FuncData} (F : Fun K "can" "Floor.can" sFloor_can f fd) : FnOk P w K mg base (L2N.CX P w) 6 f fd ["self", "number", "turn"] (spG K g_Floor_can) := FnOk.by (raw_Floor_can T h_M_can_3 h_M_place_1 F) eq_Floor_can
theorem ok_I_Floor (T : Tx K mg Env.Place Env.Passing Env.DeskPlace Env.Visitor Env.Floor Env.cl_DeskPlace_first Env.tl_DeskPlace_first) (h_F_place_of : Okf P w K mg base 5 "place_of" ["told"] g_place_of) : Okc P w K mg base 6 "Floor" Env.Floor ["self", "hall"] g_Floor___init__ := okc_of T.i_Floor (by decide) fun F => ok_Floor___init__ T h_F_place_of F
noncomputable def L_can_2 : List (Addr × G) := [(Env.Floor, g_Floor_can)]
theorem ok_M_can_2 (T : Tx K mg Env.Place Env.Passing Env.DeskPlace Env.Visitor Env.Floor Env.cl_DeskPlace_first Env.tl_DeskPlace_first) (h_M_can_3 : OkmL P w K mg base 5 L_can_3 "can" ["self", "floor", "number", "turn"]) (h_M_place_1 : OkmL P w K mg base 1 L_place_1 "place" ["self", "number"]) : OkmL P w K mg base 6 L_can_2 "can" ["self", "number", "turn"] := fun p hp => by
  simp only [L_can_2, List.mem_cons, List.not_mem_nil, or_false] at hp
  rcases hp with rfl
  · exact ⟨okm_of T.m_Floor_can_2 (by decide) fun F => ok_Floor_can T h_M_can_3 h_M_place_1 F, T.c_Floor⟩
abbrev slaw_all_right : Stmt := (top 23)
abbrev Nlaw_all_right : List Str := ["_law_floor", "_law_own", "_law_turn", "_law_name", "_law_number", "_law_found"]
theorem sclaw_all_right : FnScope Nlaw_all_right ["_law_floor", "_law_own", "_law_turn"] (defScope slaw_all_right) := ⟨rfl, rfl, rfl, by decide +kernel, rfl, by decide +kernel, by decide +kernel⟩
noncomputable def flaw_all_right1b : M Fl :=
    (dSeq (dSet 5 (dMethL L_can_2 "can" (dVar 0) (dCons (dD (dVar 4)) (dCons (dD (dVar 2)) dNil))))
    (dSeq (dIfS (dOr (dNotT (dTru (okD (M.bind (dD (dVar 5)) (gIsiS "bool"))))) (dCmpT (gEq true) (dVar 5) (okD (dCall g_law_can (dCons (dD (dVar 1)) (dCons (dD (dVar 4)) (dCons (dD (dVar 2)) dNil))))))) (dRet (dD (dC (.bl false)))) dNx)
    (dIfS (dCmpT (gEq true) (okD (dMethL L_where_1 "where" (dVar 0) (dCons (dD (dVar 4)) dNil))) (okD (dTup (dCons (dD (dVar 3)) (dCons (dOp gIx (okD (dRGet (dVar 1) (dD (dC (.str "since"))))) (dVar 4)) (dCons (dOp gIx (okD (dRGet (dVar 1) (dD (dC (.str "until"))))) (dVar 4)) dNil)))))) (dRet (dD (dC (.bl false)))) dNx)))
noncomputable def den_law_all_right : M Fl :=
    (dSeq (dSet 3 (dOp gIx (okD (dRGet (dVar 1) (dD (dC (.str "desk"))))) (dC (.int 1))))
    (dSeq (dIfS (dCmpT (gEq true) (okD (dMethL L_at_1 "at" (dVar 0) (dCons (dD (dVar 3)) dNil))) (okD (dRGet (dVar 1) (dD (dC (.str "row")))))) (dRet (dD (dC (.bl false)))) dNx)
    (dSeq (dForA (dRGet (dVar 1) (dD (dC (.str "row")))) (dName 4) flaw_all_right1b)
    (dRet (dD (dC (.bl true)))))))
theorem raw_law_all_right (T : Tx K mg Env.Place Env.Passing Env.DeskPlace Env.Visitor Env.Floor Env.cl_DeskPlace_first Env.tl_DeskPlace_first) (h_F__law_can : Okf P w K mg base 2 "_law_can" ["_law_own", "_law_number", "_law_turn"] g_law_can) (h_M_at_1 : OkmL P w K mg base 1 L_at_1 "at" ["self", "name"]) (h_M_can_2 : OkmL P w K mg base 6 L_can_2 "can" ["self", "number", "turn"]) (h_M_where_1 : OkmL P w K mg base 1 L_where_1 "where" ["self", "number"]) : Okf P w K mg base 7 "_law_all_right" ["_law_floor", "_law_own", "_law_turn"] (runD 6 3 den_law_all_right) := by
  have sc := sclaw_all_right
  exact ok_has (N := Nlaw_all_right) T.d_law_all_right sc rfl (by decide) fun f cdv A outer s H E hr => ⟨_, ((bd_cons (sd_set (i := 3) sc.nd rfl (by first | exact Or.inl rfl | exact Or.inr rfl) (dd_ix (DD.e (dd_rget (u1 hr) (ed_var 1) (ED.d ed_str))) ed_int (fun _ _ => rfl)))
    (bd_cons (sd_if (td_cmp (cNe hr.units) (DD.e (dd_methL h_M_at_1 (hr.mono (by decide)) (ed_var 0) (ad_cons (ED.d (ed_var 3)) ad_nil))) (DD.e (dd_rget (u1 hr) (ed_var 1) (ED.d ed_str))) (nomark _)) (bd_one (sd_ret (ED.d ed_bl))) bd_nil)
    (bd_cons (sd_forA (passes_of rfl) rfl (dd_rget (u1 hr) (ed_var 1) (ED.d ed_str)) (gd_name (i := 4) sc.nd rfl (by first | exact Or.inl rfl | exact Or.inr rfl)) (bd_cons (sd_set (i := 5) sc.nd rfl (by first | exact Or.inl rfl | exact Or.inr rfl) (dd_methL h_M_can_2 (hr.mono (by decide)) (ed_var 0) (ad_cons (ED.d (ed_var 4)) (ad_cons (ED.d (ed_var 2)) ad_nil))))
    (bd_cons (sd_if (td_w (wd_or (td_not (td_val (DD.e (dd_isiS (x := "bool") (cl := "bool") (by rfl) T.n_isinstance (by decide +kernel) (ED.d (ed_var 5)) (by rfl) T.n_bool (by decide +kernel))))) (wd_or1 (td_cmp (cNe hr.units) (ed_var 5) (DD.e (dd_fn h_F__law_can (hr.mono (by decide)) (by rfl) (pol_of (L2N.takes_of rfl rfl rfl rfl)) (ad_cons (ED.d (ed_var 1)) (ad_cons (ED.d (ed_var 4)) (ad_cons (ED.d (ed_var 2)) ad_nil))))) (nomark _))))) (bd_one (sd_ret (ED.d ed_bl))) bd_nil)
    (bd_one (sd_if (td_cmp (cNe hr.units) (DD.e (dd_methL h_M_where_1 (hr.mono (by decide)) (ed_var 0) (ad_cons (ED.d (ed_var 4)) ad_nil))) (DD.e (dd_tup (ad_cons (ED.d (ed_var 3)) (ad_cons (dd_ix (DD.e (dd_rget (u1 hr) (ed_var 1) (ED.d ed_str))) (ed_var 4) (fun _ _ => rfl)) (ad_cons (dd_ix (DD.e (dd_rget (u1 hr) (ed_var 1) (ED.d ed_str))) (ed_var 4) (fun _ _ => rfl)) ad_nil))))) (nomark _)) (bd_one (sd_ret (ED.d ed_bl))) bd_nil)))))
    (bd_one (sd_ret (ED.d ed_bl)))))) : BD _ _ _ _ den_law_all_right)⟩
noncomputable def g_law_all_right : G := runD 6 3 den_law_all_right
theorem eq_law_all_right : ∀ ds S, g_law_all_right ds S ≠ .no → runD 6 3 den_law_all_right ds S = g_law_all_right ds S := fun _ _ _ => rfl
theorem filt_len (p : Int → Bool) : ∀ l : List Int, (l.filter p).length + (l.filter fun x => !p x).length = l.length
  | [] => rfl
  | a :: l => by
    have := filt_len p l
    rw [List.filter_cons, List.filter_cons]
    cases p a with
    | true => simp only [if_true, Bool.not_true, Bool.false_eq_true, if_false, List.length_cons]; omega
    | false => simp only [Bool.false_eq_true, if_false, Bool.not_false, if_true, List.length_cons]; omega
theorem mxG_const (z : Int) : ∀ (l : List Int) (b : Int), mxG (fun _ => z) b l = b
  | [], _ => rfl
  | y :: l, b => by
    have e : mxG (fun _ => z) b (y :: l) = mxG (fun _ => z) (if z < z then y else b) l := rfl
    rw [e, if_neg (by omega)]
    exact mxG_const z l b
theorem mxG_congr {g g' : Int → Int} : ∀ (l : List Int) (b : Int), g b = g' b → (∀ y ∈ l, g y = g' y) → mxG g b l = mxG g' b l
  | [], _, _, _ => rfl
  | y :: l, b, hb, h => by
    have hy := h y List.mem_cons_self
    have e : ∀ g : Int → Int, mxG g b (y :: l) = mxG g (if g b < g y then y else b) l := fun _ => rfl
    rw [e, e, hb, hy]
    split
    · exact mxG_congr l y hy fun z hz => h z (List.mem_cons_of_mem _ hz)
    · exact mxG_congr l b hb fun z hz => h z (List.mem_cons_of_mem _ hz)
theorem can_eq {m : Fm} {dn : Str} {row : List Int} (hrow : m.rows dn = row) (nd : row.Nodup) {g : Int → Int} {u : Int → Option Int} (hu : ∀ y ∈ row, tilW m y = (u y).isNone) (hg : ∀ y ∈ row, g y = grd m y) (kk : Bool) (hd : Int) (rs : List (Int × Int)) {x : Int} (hx : x ∈ row) (z : Int) : lcanB kk hd rs row g u x z = canDk m dn hd kk rs x (u x) z := by
  unfold lcanB canDk
  cases hux : u x with
  | some v => rfl
  | none =>
    dsimp only
    have hW : row.filter (fun y => (u y).isNone) = waitL m dn := by
      unfold waitL
      rw [hrow]
      exact List.filter_congr fun y hy => (hu y hy).symm
    have hS : (servN m dn : Int) = ((row.length : Nat) : Int) - ((waitL m dn).length : Nat) := by
      unfold servN waitL
      rw [hrow]
      have := filt_len (tilW m) row
      omega
    rw [hW, hS]
    have xw : x ∈ waitL m dn := by
      rw [← hW]
      exact List.mem_filter.mpr ⟨hx, by rw [hux]; rfl⟩
    have wr : ∀ y ∈ waitL m dn, y ∈ row := fun y hy => by rw [← hW] at hy; exact (List.mem_filter.mp hy).1
    have pw : (waitL m dn).Pairwise fun a b => row.idxOf a < row.idxOf b := by
      rw [← hW]
      exact (idx_pw nd).filter _
    by_cases q1 : hd ≤ ((row.length : Nat) : Int) - ((waitL m dn).length : Nat)
    · rw [if_pos q1, decide_eq_false (by omega)]
      rfl
    · rw [if_neg q1, decide_eq_true (show ((row.length : Nat) : Int) - ((waitL m dn).length : Nat) < hd by omega), Bool.true_and]
      cases restB rs z with
      | true => rfl
      | false =>
        rw [if_neg (by decide), Bool.not_false, Bool.true_and]
        have key : ∀ w0 r, waitL m dn = w0 :: r → (fstL m dn kk = some x ↔ ∀ y, y = w0 ∨ y ∈ r → y ≠ x → ¬ ahB kk g row y x = true) := fun w0 r hw => by
          have fe : fstL m dn kk = some (mxG (if kk then g else fun _ => 0) w0 r) := by
            unfold fstL
            rw [hw]
            dsimp only
            cases kk with
            | true =>
              rw [if_pos rfl, if_pos rfl, mxG_congr r w0 (hg w0 (wr w0 (by rw [hw]; exact List.mem_cons_self))).symm fun y hy => (hg y (wr y (by rw [hw]; exact List.mem_cons_of_mem _ hy))).symm]
            | false =>
              rw [if_neg (by decide), if_neg (by decide), mxG_const]
          rw [hw] at pw
          obtain ⟨p1, p2⟩ := List.pairwise_cons.mp pw
          have xm : x = w0 ∨ x ∈ r := by rw [hw] at xw; exact List.mem_cons.mp xw
          rw [fe, Option.some.injEq, mxG_first (if kk then g else fun _ => 0) (fun y => row.idxOf y) r w0 x p1 p2 xm]
          have ah : ∀ y, ahB kk g row y x = true ↔ (if (if kk = true then g else fun _ => 0) y ≠ (if kk = true then g else fun _ => 0) x then (if kk = true then g else fun _ => 0) x < (if kk = true then g else fun _ => 0) y else row.idxOf y < row.idxOf x) := fun y => by
            unfold ahB
            cases kk with
            | true =>
              rw [if_pos rfl]
              by_cases q : g y = g x
              · rw [if_neg (fun z => z.2 q), if_neg (fun z => z q), decide_eq_true_eq]
              · rw [if_pos ⟨rfl, q⟩, if_pos q, decide_eq_true_eq]
            | false =>
              simp only [Bool.false_eq_true, false_and, if_false, ne_eq, not_true_eq_false, decide_eq_true_eq]
          constructor
          · intro h y hy ne z
            exact h y hy ne ((ah y).mp z)
          · intro h y hy ne z
            exact h y hy ne ((ah y).mpr z)
        cases hw : waitL m dn with
        | nil => rw [hw] at xw; exact absurd xw List.not_mem_nil
        | cons w0 r =>
          have k := key w0 r hw
          have a : (((w0 :: r).filter fun y => !decide (y = x)).any fun y => ahB kk g row y x) = true ↔ ¬ ∀ y, y = w0 ∨ y ∈ r → y ≠ x → ¬ ahB kk g row y x = true := by
            rw [List.any_eq_true]
            constructor
            · rintro ⟨y, hy, e⟩ h
              obtain ⟨h1, h2⟩ := List.mem_filter.mp hy
              exact h y (List.mem_cons.mp h1) (by simpa using h2) e
            · intro h
              refine Classical.byContradiction fun n => h fun y hy ne e => n ⟨y, List.mem_filter.mpr ⟨List.mem_cons.mpr hy, by simpa using ne⟩, e⟩
          by_cases q : fstL m dn kk = some x
          · rw [decide_eq_true q]
            have : ¬ (((w0 :: r).filter fun y => !decide (y = x)).any fun y => ahB kk g row y x) = true := fun z => a.mp z (k.mp q)
            rw [Bool.not_eq_true] at this
            rw [this]
            rfl
          · rw [decide_eq_false q]
            have : (((w0 :: r).filter fun y => !decide (y = x)).any fun y => ahB kk g row y x) = true := a.mpr fun z => q (k.mpr z)
            rw [this]
            rfl
def snc (m : Fm) (x : Int) : Int := match m.vis[x.toNat]? with
  | some v => v.since
  | none => 0
def tlv (m : Fm) (x : Int) : Option Int := match m.vis[x.toNat]? with
  | some v => v.til
  | none => none
theorem tilW_tlv (m : Fm) (x : Int) : tilW m x = (tlv m x).isNone := by
  unfold tilW tlv
  cases m.vis[x.toNat]? <;> rfl
/-- the floor and the law's own desk -/
structure KInv (t : Kt) (L : Lay) (m : Fm) (hd : Int) (ts : List Int) (c : Int) (RK SL UL : List D) (S : List Cell) : Prop where
  fa : FloorAt L m S
  own : m.own = [(t.qo, .dct (ownD t hd ts c)), (t.qr, .lst ((m.rows t.dn).map I)), (t.qk, .lst RK), (t.qs, .lst SL), (t.qu, .lst UL)]
  o3 : Own3 (m.rows t.dn) RK SL UL (grd m) (snc m) (tlv m)
  hn : t.dn ∈ m.ns
  pl : m.plc t.dn = plcS (.desk t.dn hd ts t.kk t.rs t.en) c
  rin : ∀ x ∈ m.rows t.dn, ∃ (k : Nat) (v : Vz), x = ((k : Nat) : Int) ∧ m.vis[k]? = some v ∧ v.called = t.dn
  nd : (m.rows t.dn).Nodup
  len : (m.rows t.dn).length ≤ 900
  ht : 1 ≤ ts.length ∧ ts.length ≤ 1000
  hr : t.rs.length ≤ 1000
theorem KInv.ow {t : Kt} {L : Lay} {m : Fm} {hd : Int} {ts : List Int} {c : Int} {RK SL UL : List D} {S : List Cell} (K : KInv t L m hd ts c RK SL UL S) : OwnAt t hd ts c (m.rows t.dn) RK SL UL S := by
  have e := K.own
  exact ⟨K.fa.gow (i := 0) (by rw [e]; rfl), K.fa.gow (i := 1) (by rw [e]; rfl), K.fa.gow (i := 2) (by rw [e]; rfl), K.fa.gow (i := 3) (by rw [e]; rfl), K.fa.gow (i := 4) (by rw [e]; rfl)⟩
theorem KInv.row {t : Kt} {L : Lay} {m : Fm} {hd : Int} {ts : List Int} {c : Int} {RK SL UL : List D} {S : List Cell} (K : KInv t L m hd ts c RK SL UL S) : RowIn m t.dn := fun x hx => (let ⟨k, v, e, hk, _⟩ := K.rin x hx; ⟨k, v, e, hk⟩)
theorem KInv.push {t : Kt} {L : Lay} {m : Fm} {hd : Int} {ts : List Int} {c : Int} {RK SL UL : List D} {S : List Cell} (K : KInv t L m hd ts c RK SL UL S) (U : List Cell) : KInv t L m hd ts c RK SL UL (S ++ U) :=
  ⟨K.fa.push U, K.own, K.o3, K.hn, K.pl, K.rin, K.nd, K.len, K.ht, K.hr⟩
theorem wh_self (neg : Bool) (n : Str) (s : Int) (u : Option Int) (c : Stt) : gEq neg (.d (.tup [.v (.str n), .v (.int s), tilD u])) (.d (.tup [.v (.str n), .v (.int s), tilD u])) c = .ok (.v (.bl (!neg))) c := by
  cases u with
  | none => exact gEq_selfD (p := .tuple [.str n, .int s, .none]) rfl (by simp [PyData.depth, PyData.depthAll])
  | some v => exact gEq_selfD (p := .tuple [.str n, .int s, .int v]) rfl (by simp [PyData.depth, PyData.depthAll])
theorem right_one {t : Kt} {L : Lay} {m : Fm} {hd : Int} {ts : List Int} {c : Int} {RK SL UL : List D} {S : List Cell} (K : KInv t L m hd ts c RK SL UL S) {x : Int} (hx : x ∈ m.rows t.dn) (z : Int) (x5 : Slot) : ∃ (U : List Cell) (y : Slot), flaw_all_right1b ⟨[.d (.loc L.f), .d (.loc t.qo), .d (.v (.int z)), .d (.v (.str t.dn)), .d (.v (.int x)), x5], S⟩ = .ok .nx ⟨[.d (.loc L.f), .d (.loc t.qo), .d (.v (.int z)), .d (.v (.str t.dn)), .d (.v (.int x)), y], S ++ U⟩ := by
  obtain ⟨k, v, rfl, hk, hc⟩ := K.rin x hx
  have hn : v.called ∈ m.ns := by rw [hc]; exact K.hn
  have hr : RowIn m v.called := by rw [hc]; exact K.row
  have nd : (m.rows v.called).Nodup := by rw [hc]; exact K.nd
  have hz : (m.rows v.called).length ≤ 1000 := by rw [hc]; exact Nat.le_trans K.len (by decide)
  have hp : m.plc v.called = plcS (.desk t.dn hd ts t.kk t.rs t.en) c := by rw [hc]; exact K.pl
  obtain ⟨U, e1⟩ := fcan_ok K.fa hk hn hr nd hz (.desk t.dn hd ts t.kk t.rs t.en) c hp hc.symm rfl rfl ⟨K.ht.2, K.hr⟩ z
  refine ⟨U, .d (.v (.bl (canS m k v z (.desk t.dn hd ts t.kk t.rs t.en)))), ?_⟩
  have K1 := K.push U
  have e2 := lcan_ok K1.ow K1.o3 (Nat.le_trans K.len (by decide)) K.hr hx z
  rw [can_eq (m := m) (dn := t.dn) rfl K.nd (fun y _ => tilW_tlv m y) (fun y _ => rfl) t.kk hd t.rs hx z] at e2
  have et : tlv m ((k : Nat) : Int) = v.til := by
    unfold tlv
    rw [Int.toNat_natCast, hk]
  have es : snc m ((k : Nat) : Int) = v.since := by
    unfold snc
    rw [Int.toNat_natCast, hk]
  have ec : canS m k v z (.desk t.dn hd ts t.kk t.rs t.en) = canDk m t.dn hd t.kk t.rs ((k : Nat) : Int) (tlv m ((k : Nat) : Int)) z := by
    show canDk m v.called hd t.kk t.rs (k : Nat) v.til z = _
    rw [et, hc]
  rw [← ec] at e2
  have e3 := where_ok K1.fa hk
  rw [hc] at e3
  have q1 := K1.o3.s _ hx
  have q2 := K1.o3.u _ hx
  rw [es] at q1
  rw [et] at q2
  have gf := K.fa.gf
  have gf1 := K1.fa.gf
  have o1 := K1.ow.o
  have s1 := K1.ow.s
  have u1 := K1.ow.u
  have os := ow_since t hd ts c
  have ou := ow_until t hd ts c
  have ws := fun c => wh_self true t.dn v.since v.til c
  have ib : ∀ (b : Bool) c, gIsiS "bool" (.v (.bl b)) c = .ok (.v (.bl true)) c := fun b c => rfl
  have gb : ∀ (b : Bool) c, gEq true (.d (.v (.bl b))) (.d (.v (.bl b))) c = .ok (.v (.bl false)) c := fun b c => by rw [gEq_bl]; simp
  generalize canS m k v z (.desk t.dn hd ts t.kk t.rs t.en) = bb at *
  generalize tilD v.til = tu at *
  generalize ownD t hd ts c = ow at *
  generalize ((k : Nat) : Int) = kz at *
  simp_arith [flaw_all_right1b, dFldA, dSetFA, dMethL, dMeth, insA, insD, dRGet, rdcD, dctD, keyD, dSt, dDAug, rol, spl, izl, gsl, Sdl, vcell, tilD, dFldAug, dRGet, rdcD, dctD, keyD, dIdx, dPut, dAugL, dDAug, dDPut, dSt, lkV1, lkV2, lkV3, lkV4, lkV5, ptV1, ptV2, ptV3, lnV, lkF1, lkF2, lkF3, lkF4, lkF5, lkFa, lkFb, lkFc, lkFd, lkFe, lkFf, lkFg, lkFh, lkFi, lkFj, lkFk, lkFl, lkFm, lkFn, lkFo, lkFp, mC_Place_called, mC_Passing_called, mC_DeskPlace_called, mC_Visitor_called, mC_Passing_then, mC_DeskPlace_then, mC_DeskPlace_hands, mC_DeskPlace_takes, mC_DeskPlace_is_ranked, mC_DeskPlace_rests, mC_DeskPlace_begun, mC_Visitor_since, mC_Visitor_until, mC_Visitor_things, mC_Visitor_grade, mC_Floor_guests, mC_Floor_rows, mC_Floor_spots, mC_Floor_ranks, mC_Floor_pools, lkXF_called, lkXF_then, lkXF_takes, lkXF_hands, lkXF_is_ranked, lkXF_rests, lkXF_begun, lkXF_pool, lkXF_rule, lkXF_goals, lkXF_moved, lkXF_can, lkXF_moves, lkXF_clock, lkXF_change, lkXF_first, lkXF_served, lkXF_rests_at, lkXF_chosen, lkXF_is_open, lnXF, lkDF_called, lkDF_then, lkDF_takes, lkDF_hands, lkDF_is_ranked, lkDF_rests, lkDF_begun, lkDF_pool, lkDF_rule, lkDF_goals, lkDF_moved, lkDF_can, lkDF_moves, lkDF_clock, lkDF_change, lkDF_first, lkDF_served, lkDF_rests_at, lkDF_chosen, lkDF_is_open, lnDF, lkKF_called, lkKF_then, lkKF_takes, lkKF_hands, lkKF_is_ranked, lkKF_rests, lkKF_begun, lkKF_pool, lkKF_rule, lkKF_goals, lkKF_moved, lkKF_can, lkKF_moves, lkKF_clock, lkKF_change, lkKF_first, lkKF_served, lkKF_rests_at, lkKF_chosen, lkKF_is_open, lnKF, L_can_2, L_where_1, List.lookup_cons, beq_self_eq_true, nE_Place_Passing, nE_Place_DeskPlace, nE_Place_Visitor, nE_Place_Floor, nE_Passing_Place, nE_Passing_DeskPlace, nE_Passing_Visitor, nE_Passing_Floor, nE_DeskPlace_Place, nE_DeskPlace_Passing, nE_DeskPlace_Visitor, nE_DeskPlace_Floor, nE_Visitor_Place, nE_Visitor_Passing, nE_Visitor_DeskPlace, nE_Visitor_Floor, nE_Floor_Place, nE_Floor_Passing, nE_Floor_DeskPlace, nE_Floor_Visitor, gf, gf1, e1, e2, e3, q1, q2, o1, s1, u1, os, ou, ws, ib, gb, -gEq_pair, -gEq_ints, -gEq_int, -gEq_bl, -itL]
theorem all_right_ok {t : Kt} {L : Lay} {m : Fm} {hd : Int} {ts : List Int} {c : Int} {RK SL UL : List D} {S : List Cell} (K : KInv t L m hd ts c RK SL UL S) (z : Int) : ∃ U, g_law_all_right [.loc L.f, .loc t.qo, .v (.int z)] S = .ok (.v (.bl true)) (S ++ U) := by
  have a := at_ok K.fa K.hn
  obtain ⟨U0, hU0⟩ : ∃ U0, [Cell.lst ((m.rows t.dn).map I)] = U0 := ⟨_, rfl⟩
  have K1 := K.push U0
  have gl : (S ++ U0)[S.length]? = some (.lst ((m.rows t.dn).map I)) := by rw [← hU0]; exact tl_get S _
  rw [hU0] at a
  obtain ⟨c', e, U, x4, x5, hc'⟩ := itG_inv (n := t.qr) (es := (m.rows t.dn).map I) (dg := dName 4) (db := flaw_all_right1b) (Inv := fun _ c' => ∃ (U : List Cell) (x4 x5 : Slot), c' = ⟨[.d (.loc L.f), .d (.loc t.qo), .d (.v (.int z)), .d (.v (.str t.dn)), x4, x5], S ++ U⟩) (by
    rintro i c' ⟨U, x4, x5, rfl⟩
    exact (K.push U).ow.r) ((m.rows t.dn).map I) 0 ⟨[.d (.loc L.f), .d (.loc t.qo), .d (.v (.int z)), .d (.v (.str t.dn)), .no, .no], S ++ U0⟩ ⟨U0, _, _, rfl⟩ (by
    rintro j d c' hj ⟨U, x4, x5, rfl⟩
    obtain ⟨x, hx, rfl⟩ := List.mem_map.mp (List.mem_of_getElem? hj)
    obtain ⟨U2, y, e⟩ := right_one (K.push U) hx z x5
    exact ⟨⟨[.d (.loc L.f), .d (.loc t.qo), .d (.v (.int z)), .d (.v (.str t.dn)), .d (.v (.int x)), x5], S ++ U⟩, rfl, _, e, U ++ U2, _, y, by rw [List.append_assoc]⟩)
  subst hc'
  refine ⟨U, ?_⟩
  have gf := K.fa.gf
  have o := K.ow.o
  have o1 := K1.ow.o
  have r1 := K1.ow.r
  have od := ow_desk t hd ts c
  have orr := ow_row t hd ts c
  have d1 := dk1 t hd ts
  unfold deskD rowT at od
  have ge : ∀ r0, gEq true (.d (.loc S.length)) (.d (.loc t.qr)) ⟨r0, S ++ U0⟩ = .ok (.v (.bl false)) ⟨r0, S ++ U0⟩ := fun r0 => by
    rw [gEq_locl (c := ⟨r0, S ++ U0⟩) gl, gEq_locr (c := ⟨r0, S ++ U0⟩) r1, gEq_ints]
    simp
  generalize (m.rows t.dn).map I = RI at *
  generalize (Sta.desk t.dn hd ts t.kk t.rs t.en).row = dr at *
  generalize ownD t hd ts c = ow at *
  simp_arith [g_law_all_right, den_law_all_right, dForA, dForX, dFldA, dSetFA, dMethL, dMeth, insA, insD, dRGet, rdcD, dctD, keyD, dSt, dDAug, rol, spl, izl, gsl, Sdl, vcell, tilD, dFldAug, dRGet, rdcD, dctD, keyD, dIdx, dPut, dAugL, dDAug, dDPut, dSt, lkV1, lkV2, lkV3, lkV4, lkV5, ptV1, ptV2, ptV3, lnV, lkF1, lkF2, lkF3, lkF4, lkF5, lkFa, lkFb, lkFc, lkFd, lkFe, lkFf, lkFg, lkFh, lkFi, lkFj, lkFk, lkFl, lkFm, lkFn, lkFo, lkFp, mC_Place_called, mC_Passing_called, mC_DeskPlace_called, mC_Visitor_called, mC_Passing_then, mC_DeskPlace_then, mC_DeskPlace_hands, mC_DeskPlace_takes, mC_DeskPlace_is_ranked, mC_DeskPlace_rests, mC_DeskPlace_begun, mC_Visitor_since, mC_Visitor_until, mC_Visitor_things, mC_Visitor_grade, mC_Floor_guests, mC_Floor_rows, mC_Floor_spots, mC_Floor_ranks, mC_Floor_pools, lkXF_called, lkXF_then, lkXF_takes, lkXF_hands, lkXF_is_ranked, lkXF_rests, lkXF_begun, lkXF_pool, lkXF_rule, lkXF_goals, lkXF_moved, lkXF_can, lkXF_moves, lkXF_clock, lkXF_change, lkXF_first, lkXF_served, lkXF_rests_at, lkXF_chosen, lkXF_is_open, lnXF, lkDF_called, lkDF_then, lkDF_takes, lkDF_hands, lkDF_is_ranked, lkDF_rests, lkDF_begun, lkDF_pool, lkDF_rule, lkDF_goals, lkDF_moved, lkDF_can, lkDF_moves, lkDF_clock, lkDF_change, lkDF_first, lkDF_served, lkDF_rests_at, lkDF_chosen, lkDF_is_open, lnDF, lkKF_called, lkKF_then, lkKF_takes, lkKF_hands, lkKF_is_ranked, lkKF_rests, lkKF_begun, lkKF_pool, lkKF_rule, lkKF_goals, lkKF_moved, lkKF_can, lkKF_moves, lkKF_clock, lkKF_change, lkKF_first, lkKF_served, lkKF_rests_at, lkKF_chosen, lkKF_is_open, lnKF, L_at_1, List.lookup_cons, beq_self_eq_true, nE_Place_Passing, nE_Place_DeskPlace, nE_Place_Visitor, nE_Place_Floor, nE_Passing_Place, nE_Passing_DeskPlace, nE_Passing_Visitor, nE_Passing_Floor, nE_DeskPlace_Place, nE_DeskPlace_Passing, nE_DeskPlace_Visitor, nE_DeskPlace_Floor, nE_Visitor_Place, nE_Visitor_Passing, nE_Visitor_DeskPlace, nE_Visitor_Floor, nE_Floor_Place, nE_Floor_Passing, nE_Floor_DeskPlace, nE_Floor_Visitor, gf, o, o1, r1, od, orr, d1, a, ge, e, -gEq_pair, -gEq_ints, -gEq_int, -gEq_bl, -itL]
theorem ok_law_all_right (T : Tx K mg Env.Place Env.Passing Env.DeskPlace Env.Visitor Env.Floor Env.cl_DeskPlace_first Env.tl_DeskPlace_first) (h_F__law_can : Okf P w K mg base 2 "_law_can" ["_law_own", "_law_number", "_law_turn"] g_law_can) (h_M_at_1 : OkmL P w K mg base 1 L_at_1 "at" ["self", "name"]) (h_M_can_2 : OkmL P w K mg base 6 L_can_2 "can" ["self", "number", "turn"]) (h_M_where_1 : OkmL P w K mg base 1 L_where_1 "where" ["self", "number"]) : Okf P w K mg base 7 "_law_all_right" ["_law_floor", "_law_own", "_law_turn"] g_law_all_right := (raw_law_all_right T h_F__law_can h_M_at_1 h_M_can_2 h_M_where_1).by eq_law_all_right
abbrev slaw_came : Stmt := (top 25)
abbrev Nlaw_came : List Str := ["_law_floor", "_law_own", "_law_door", "_law_turn", "_law_number"]
theorem sclaw_came : FnScope Nlaw_came ["_law_floor", "_law_own", "_law_door", "_law_turn"] (defScope slaw_came) := ⟨rfl, rfl, rfl, by decide +kernel, rfl, by decide +kernel, by decide +kernel⟩
noncomputable def den_law_came : M Fl :=
    (dSeq (dSet 4 (dMethL L_come_2 "come" (dVar 0) (dCons (dOp gIx (dVar 2) (dC (.int 1))) (dCons (dD (dVar 3)) dNil))))
    (dSeq (dIfS (dOr (dCmpT gNotB (okD (dMethL L_can_2 "can" (dVar 0) (dCons (dD (dVar 4)) (dCons (dD (dVar 3)) dNil)))) (dC (.bl true))) (dCmpT (gEq true) (okD (dMethL L_move_2 "move" (dVar 0) (dCons (dD (dVar 4)) (dCons (dD (dVar 3)) dNil)))) (okD (dTup (dCons (dD (dC (.str "enters"))) (dCons (dOp gIx (okD (dRGet (dVar 1) (dD (dC (.str "desk"))))) (dC (.int 1))) dNil)))))) (dRet (dD (dC (.bl false)))) dNx)
    (dSeq (dDrop (okD (dApp (okD (dRGet (dVar 1) (dD (dC (.str "row"))))) (dD (dVar 4)))))
    (dSeq (dDrop (okD (dApp (okD (dRGet (dVar 1) (dD (dC (.str "ranks"))))) (dOp gIx (dVar 2) (dC (.int 2))))))
    (dSeq (dDrop (okD (dApp (okD (dRGet (dVar 1) (dD (dC (.str "since"))))) (dD (dVar 3)))))
    (dSeq (dDrop (okD (dApp (okD (dRGet (dVar 1) (dD (dC (.str "until"))))) (dD (dC .non)))))
    (dRet (dOp (gEq false) (dVar 4) (okD (dOp gSubI (okD (M.bind (okD (dRGet (dVar 1) (dD (dC (.str "ranks"))))) gLen)) (dC (.int 1))))))))))))
theorem raw_law_came (T : Tx K mg Env.Place Env.Passing Env.DeskPlace Env.Visitor Env.Floor Env.cl_DeskPlace_first Env.tl_DeskPlace_first) (h_M_can_2 : OkmL P w K mg base 6 L_can_2 "can" ["self", "number", "turn"]) (h_M_come_2 : OkmL P w K mg base 3 L_come_2 "come" ["self", "name", "turn"]) (h_M_move_2 : OkmL P w K mg base 4 L_move_2 "move" ["self", "number", "turn"]) : Okf P w K mg base 7 "_law_came" ["_law_floor", "_law_own", "_law_door", "_law_turn"] (runD 5 4 den_law_came) := by
  have sc := sclaw_came
  exact ok_has (N := Nlaw_came) T.d_law_came sc rfl (by decide) fun f cdv A outer s H E hr => ⟨_, ((bd_cons (sd_set (i := 4) sc.nd rfl (by first | exact Or.inl rfl | exact Or.inr rfl) (dd_methL h_M_come_2 (hr.mono (by decide)) (ed_var 0) (ad_cons (dd_ix (ed_var 2) ed_int (fun _ _ => rfl)) (ad_cons (ED.d (ed_var 3)) ad_nil))))
    (bd_cons (sd_if (td_w (wd_or (td_cmp cNotB (DD.e (dd_methL h_M_can_2 (hr.mono (by decide)) (ed_var 0) (ad_cons (ED.d (ed_var 4)) (ad_cons (ED.d (ed_var 3)) ad_nil)))) ed_bl (nomark _)) (wd_or1 (td_cmp (cNe hr.units) (DD.e (dd_methL h_M_move_2 (hr.mono (by decide)) (ed_var 0) (ad_cons (ED.d (ed_var 4)) (ad_cons (ED.d (ed_var 3)) ad_nil)))) (DD.e (dd_tup (ad_cons (ED.d ed_str) (ad_cons (dd_ix (DD.e (dd_rget (u1 hr) (ed_var 1) (ED.d ed_str))) ed_int (fun _ _ => rfl)) ad_nil)))) (nomark _))))) (bd_one (sd_ret (ED.d ed_bl))) bd_nil)
    (bd_cons (sd_expr (DD.e (dd_append (DD.e (dd_rget (u1 hr) (ed_var 1) (ED.d ed_str))) (ED.d (ed_var 4)))))
    (bd_cons (sd_expr (DD.e (dd_append (DD.e (dd_rget (u1 hr) (ed_var 1) (ED.d ed_str))) (dd_ix (ed_var 2) ed_int (fun _ _ => rfl)))))
    (bd_cons (sd_expr (DD.e (dd_append (DD.e (dd_rget (u1 hr) (ed_var 1) (ED.d ed_str))) (ED.d (ed_var 3)))))
    (bd_cons (sd_expr (DD.e (dd_append (DD.e (dd_rget (u1 hr) (ed_var 1) (ED.d ed_str))) (ED.d ed_non))))
    (bd_one (sd_ret (dd_cmp (cEq hr.units) (ed_var 4) (DD.e (dd_sub (DD.e (dd_b1 bLen (by rfl) T.n_len (by decide +kernel) (DD.e (dd_rget (u1 hr) (ed_var 1) (ED.d ed_str))))) ed_int)) (nomark _)))))))))) : BD _ _ _ _ den_law_came)⟩
noncomputable def g_law_came : G := runD 5 4 den_law_came
theorem eq_law_came : ∀ ds S, g_law_came ds S ≠ .no → runD 5 4 den_law_came ds S = g_law_came ds S := fun _ _ _ => rfl
structure DoorAt (t : Kt) (m : Fm) (d : Str) (r : Int) : Prop where
  hn : d ∈ m.ns
  hk : d ∈ m.ks
  kz : m.kz d = r
  row : m.rows d = []
  pl : m.plc d = plcS (.doorA d r [0] t.dn) 0
  n1 : d ≠ t.dn
  n2 : d ≠ t.en
structure FInv (t : Kt) (doors : List (Str × Int)) (L : Lay) (m : Fm) (hd : Int) (ts : List Int) (c : Int) (RK SL UL : List D) (S : List Cell) : Prop where
  K : KInv t L m hd ts c RK SL UL S
  hen : t.en ∈ m.ns
  ne : t.en ≠ t.dn
  dr : ∀ p ∈ doors, DoorAt t m p.1 p.2
  lk : RK.length = m.vis.length
  ls : SL.length = m.vis.length
  lu : UL.length = m.vis.length
  lr : (m.rows t.dn).length + (m.rows t.en).length ≤ m.vis.length
  lv : m.vis.length ≤ 60
theorem atI_old {l r : List D} {x : Int} {d : D} (h0 : 0 ≤ x) (h : atI l x = some d) (hl : x < l.length) : atI (l ++ r) x = some d := by
  obtain ⟨k, rfl⟩ : ∃ k : Nat, x = k := ⟨x.toNat, by omega⟩
  have hk : k < l.length := by omega
  have e : l[k]? = some d := by
    unfold atI at h
    have : ixN l.length (k : Int) = some k := by
      unfold ixN
      simp
      omega
    rw [this] at h
    exact h
  exact atI_nat (by rw [List.getElem?_append_left hk]; exact e)
theorem atI_new {l : List D} {d : D} : atI (l ++ [d]) ((l.length : Nat) : Int) = some d := atI_nat (by simp)
theorem came_ok {t : Kt} {doors : List (Str × Int)} {L : Lay} {m : Fm} {hd : Int} {ts : List Int} {c : Int} {RK SL UL : List D} {S : List Cell} (F : FInv t doors L m hd ts c RK SL UL S) (hl : m.vis.length < 60) {d : Str} {r : Int} (hp : (d, r) ∈ doors) (z : Int) :
    ∃ m' RK' SL' UL' S', g_law_came [.loc L.f, .loc t.qo, rowT (.doorA d r [0] t.dn), .v (.int z)] S = .ok (.v (.bl true)) S' ∧ FInv t doors L m' hd ts c RK' SL' UL' S' := by
  have DA := F.dr _ hp
  have hdn : d ∈ m.ns := DA.hn
  have hdk : d ∈ m.ks := DA.hk
  have hkz : m.kz d = r := DA.kz
  have hrow : m.rows d = [] := DA.row
  have hpl : m.plc d = plcS (.doorA d r [0] t.dn) 0 := DA.pl
  have n1 : d ≠ t.dn := DA.n1
  have n2 : d ≠ t.en := DA.n2
  obtain ⟨S1, e1, h1⟩ := come_ok F.K.fa hdn hdk (by omega) (by rw [hrow]; decide) z
  obtain ⟨N, hN⟩ : ∃ N, m.vis.length = N := ⟨_, rfl⟩
  obtain ⟨v1, hv1⟩ : ∃ v1 : Vz, ({ q := S.length, t := S.length + 1, grade := m.kz d, called := d, since := z, til := none, things := [] } : Vz) = v1 := ⟨_, rfl⟩
  obtain ⟨m1, hm1⟩ : ∃ m1, m.come S.length d z = m1 := ⟨_, rfl⟩
  have vis1 : m1.vis = m.vis ++ [v1] := by rw [← hm1, ← hv1]; rfl
  have rows1 : ∀ n, m1.rows n = if n = d then [((N : Nat) : Int)] else m.rows n := fun n => by
    rw [← hm1, ← hN]
    show (if n = d then m.rows d ++ [((m.vis.length : Nat) : Int)] else m.rows n) = _
    rw [hrow]
    rfl
  have plc1 : m1.plc = m.plc := by rw [← hm1]; rfl
  have ns1 : m1.ns = m.ns := by rw [← hm1]; rfl
  have own1 : m1.own = m.own := by rw [← hm1]; rfl
  have ks1 : m1.ks = m.ks := by rw [← hm1]; rfl
  have kz1 : m1.kz = m.kz := by rw [← hm1]; rfl
  rw [hN] at e1
  rw [hm1] at h1
  have c1 : v1.called = d := by rw [← hv1]
  have hk1 : m1.vis[N]? = some v1 := by rw [vis1, ← hN]; simp
  have hn1 : v1.called ∈ m1.ns := by rw [c1, ns1]; exact hdn
  have rowd : m1.rows v1.called = [((N : Nat) : Int)] := by rw [c1, rows1, if_pos rfl]
  obtain ⟨U, e2⟩ := fcan_ok h1 hk1 hn1 (fun x hx => by rw [rowd] at hx; rw [List.mem_singleton.mp hx]; exact ⟨N, v1, rfl, hk1⟩) (by rw [rowd]; simp) (by rw [rowd]; simp) (.doorA d r [0] t.dn) 0 (by rw [plc1, c1]; exact hpl) c1.symm rfl rfl (show [(0 : Int)].length ≤ 1000 from by decide) z
  have h1U := h1.push U
  have rdn1 : m1.rows t.dn = m.rows t.dn := by rw [rows1, if_neg (Ne.symm n1)]
  have rdl : (m.rows t.dn).length < 1000 := Nat.lt_of_le_of_lt F.K.len (by decide)
  obtain ⟨S2, e3, h2⟩ := fmove_ok h1U hk1 hn1 (.doorA d r [0] t.dn) 0 (by rw [plc1, c1]; exact hpl) c1.symm rfl rfl (show t.dn ∈ m1.ns by rw [ns1]; exact F.K.hn) (by rw [rowd]; exact List.mem_singleton.mpr rfl) (by rw [rowd]; simp) (show (m1.rows t.dn).length < 1000 by rw [rdn1]; exact rdl) (fun _ _ _ _ _ _ e => by cases e) z
  obtain ⟨m2, hm2⟩ : ∃ m2, goS m1 N v1 z 0 (.doorA d r [0] t.dn) = m2 := ⟨_, rfl⟩
  rw [hm2] at h2
  obtain ⟨v2, hv2⟩ : ∃ v2 : Vz, { v1 with called := t.dn, since := z, til := none } = v2 := ⟨_, rfl⟩
  have em2 : m2 = m1.enter N v1 t.dn z := by rw [← hm2]; rfl
  have vis2 : m2.vis = m.vis ++ [v2] := by
    rw [em2]
    show m1.vis.set N _ = _
    rw [vis1, ← hN, List.set_append_right _ _ (Nat.le_refl _), Nat.sub_self]
    rw [← hv2]
    rfl
  have rows2 : ∀ n, m2.rows n = if n = t.dn then m.rows t.dn ++ [((N : Nat) : Int)] else m.rows n := fun n => by
    rw [em2]
    show (if n = t.dn then (if t.dn = v1.called then (m1.rows v1.called).erase (N : Nat) else m1.rows t.dn) ++ [((N : Nat) : Int)] else if n = v1.called then (m1.rows v1.called).erase (N : Nat) else m1.rows n) = _
    rw [c1, if_neg (Ne.symm n1), rdn1]
    by_cases q : n = t.dn
    · rw [if_pos q, if_pos q]
    · rw [if_neg q, if_neg q]
      by_cases q2 : n = d
      · rw [if_pos q2, rows1, if_pos rfl, q2, hrow]
        simp
      · rw [if_neg q2, rows1, if_neg q2]
  have plc2 : m2.plc = m.plc := by rw [em2]; exact plc1
  have ns2 : m2.ns = m.ns := by rw [em2]; exact ns1
  have own2 : m2.own = m.own := by rw [em2]; exact own1
  have ks2 : m2.ks = m.ks := by rw [em2]; exact ks1
  have kz2 : m2.kz = m.kz := by rw [em2]; exact kz1
  have O := F.K.own
  -- the law's own lists
  have hA := h2.setOwn (i := 1) (a := t.qr) (c0 := .lst ((m.rows t.dn).map I)) (by rw [own2, O]; rfl) (.lst ((m.rows t.dn ++ [((N : Nat) : Int)]).map I))
  have hB := hA.setOwn (i := 2) (a := t.qk) (c0 := .lst RK) (by show (m2.own.set 1 _)[2]? = _; rw [own2, O]; rfl) (.lst (RK ++ [.v (.int r)]))
  have hC := hB.setOwn (i := 3) (a := t.qs) (c0 := .lst SL) (by show ((m2.own.set 1 _).set 2 _)[3]? = _; rw [own2, O]; rfl) (.lst (SL ++ [.v (.int z)]))
  have hD := hC.setOwn (i := 4) (a := t.qu) (c0 := .lst UL) (by show (((m2.own.set 1 _).set 2 _).set 3 _)[4]? = _; rw [own2, O]; rfl) (.lst (UL ++ [.v .non]))
  have bd : ∀ x ∈ m.rows t.dn, ∃ k : Nat, x = ((k : Nat) : Int) ∧ k < N := fun x hx => by
    obtain ⟨k, v, e, hk, _⟩ := F.K.rin x hx
    exact ⟨k, e, by rw [← hN]; exact (List.getElem?_eq_some_iff.mp hk).1⟩
  refine ⟨_, RK ++ [.v (.int r)], SL ++ [.v (.int z)], UL ++ [.v .non], _, ?_, ⟨⟨hD, ?_, ⟨?_, ?_, ?_⟩, by show t.dn ∈ m2.ns; rw [ns2]; exact F.K.hn, by show m2.plc t.dn = _; rw [plc2]; exact F.K.pl, ?_, ?_, ?_, F.K.ht, F.K.hr⟩, by show t.en ∈ m2.ns; rw [ns2]; exact F.hen, F.ne, ?_, ?_, ?_, ?_, ?_, ?_⟩⟩
  · have gf := F.K.fa.gf
    have gf1 := h1.gf
    have gfU := h1U.gf
    have gf2 := h2.gf
    have OA : S2[t.qo]? = some (.dct (ownD t hd ts c)) := h2.gow (i := 0) (by rw [own2, O]; rfl)
    have OB := h2.gow (i := 1) (a := t.qr) (c := .lst ((m.rows t.dn).map I)) (by rw [own2, O]; rfl)
    have OC := hA.gow (i := 2) (a := t.qk) (c := .lst RK) (by show (m2.own.set 1 _)[2]? = _; rw [own2, O]; rfl)
    have OD := hB.gow (i := 3) (a := t.qs) (c := .lst SL) (by show ((m2.own.set 1 _).set 2 _)[3]? = _; rw [own2, O]; rfl)
    have OE := hC.gow (i := 4) (a := t.qu) (c := .lst UL) (by show (((m2.own.set 1 _).set 2 _).set 3 _)[4]? = _; rw [own2, O]; rfl)
    have oA := hA.gow (i := 0) (a := t.qo) (c := .dct (ownD t hd ts c)) (by show (m2.own.set 1 _)[0]? = _; rw [own2, O]; rfl)
    have oB := hB.gow (i := 0) (a := t.qo) (c := .dct (ownD t hd ts c)) (by show ((m2.own.set 1 _).set 2 _)[0]? = _; rw [own2, O]; rfl)
    have oC := hC.gow (i := 0) (a := t.qo) (c := .dct (ownD t hd ts c)) (by show (((m2.own.set 1 _).set 2 _).set 3 _)[0]? = _; rw [own2, O]; rfl)
    have oD := hD.gow (i := 0) (a := t.qo) (c := .dct (ownD t hd ts c)) (by show ((((m2.own.set 1 _).set 2 _).set 3 _).set 4 _)[0]? = _; rw [own2, O]; rfl)
    have kD := hD.gow (i := 2) (a := t.qk) (c := .lst (RK ++ [.v (.int r)])) (by show ((((m2.own.set 1 _).set 2 _).set 3 _).set 4 _)[2]? = _; rw [own2, O]; rfl)
    have r1 : atI (Sta.doorA d r [0] t.dn).row 1 = some (.v (.str d)) := rfl
    have r2 : atI (Sta.doorA d r [0] t.dn).row 2 = some (.v (.int r)) := rfl
    have od := ow_desk t hd ts c
    have orr := ow_row t hd ts c
    have ork := ow_ranks t hd ts c
    have os := ow_since t hd ts c
    have ou := ow_until t hd ts c
    have d1 := dk1 t hd ts
    unfold deskD rowT at od
    have ew : ∀ c, gEq true (.d (.tup [.v (.str (Str.ofString "enters")), .v (.str t.dn)])) (.d (.tup [.v (.str (Str.ofString "enters")), .v (.str t.dn)])) c = .ok (.v (.bl false)) c := fun c => gEq_selfD (neg := true) (p := .tuple [.str (Str.ofString "enters"), .str t.dn]) rfl (by simp [PyData.depth, PyData.depthAll])
    have cb : canS m1 N v1 z (.doorA d r [0] t.dn) = true := rfl
    rw [cb] at e2
    have w1 : (wordS v1 (.doorA d r [0] t.dn)).1 = Str.ofString "enters" := rfl
    have w2 : (wordS v1 (.doorA d r [0] t.dn)).2 = t.dn := rfl
    rw [w1, w2] at e3
    have gnb : ∀ c, gNotB (.d (.v (.bl true))) (.d (.v (.bl true))) c = .ok (.v (.bl false)) c := fun c => rfl
    have ap := app_int (m.rows t.dn) ((N : Nat) : Int)
    have z1 : ((m.rows t.dn).map I).length < 1000000 := by rw [List.length_map]; omega
    have z2 : RK.length < 1000000 := by rw [F.lk]; omega
    have z3 : SL.length < 1000000 := by rw [F.ls]; omega
    have z4 : UL.length < 1000000 := by rw [F.lu]; omega
    have eN : (((RK ++ [D.v (.int r)]).length : Nat) : Int) - 1 = ((N : Nat) : Int) := by rw [List.length_append, F.lk, hN]; simp
    have eq1 : ∀ c, gEq false (.d (.v (.int ((N : Nat) : Int)))) (.d (.v (.int ((N : Nat) : Int)))) c = .ok (.v (.bl true)) c := fun c => by rw [gEq_int]; simp
    unfold rowT
    generalize ((N : Nat) : Int) = Nz at *
    generalize (m.rows t.dn ++ [Nz]).map I = RI2 at *
    generalize (m.rows t.dn).map I = RI at *
    generalize (Sta.desk t.dn hd ts t.kk t.rs t.en).row = dr at *
    generalize (Sta.doorA d r [0] t.dn).row = drr at *
    generalize ownD t hd ts c = ow at *
    simp_arith [g_law_came, den_law_came, dFldA, dSetFA, dMethL, dMeth, insA, insD, dRGet, rdcD, dctD, keyD, dSt, dDAug, rol, spl, izl, gsl, Sdl, vcell, tilD, dFldAug, dRGet, rdcD, dctD, keyD, dIdx, dPut, dAugL, dDAug, dDPut, dSt, lkV1, lkV2, lkV3, lkV4, lkV5, ptV1, ptV2, ptV3, lnV, lkF1, lkF2, lkF3, lkF4, lkF5, lkFa, lkFb, lkFc, lkFd, lkFe, lkFf, lkFg, lkFh, lkFi, lkFj, lkFk, lkFl, lkFm, lkFn, lkFo, lkFp, mC_Place_called, mC_Passing_called, mC_DeskPlace_called, mC_Visitor_called, mC_Passing_then, mC_DeskPlace_then, mC_DeskPlace_hands, mC_DeskPlace_takes, mC_DeskPlace_is_ranked, mC_DeskPlace_rests, mC_DeskPlace_begun, mC_Visitor_since, mC_Visitor_until, mC_Visitor_things, mC_Visitor_grade, mC_Floor_guests, mC_Floor_rows, mC_Floor_spots, mC_Floor_ranks, mC_Floor_pools, lkXF_called, lkXF_then, lkXF_takes, lkXF_hands, lkXF_is_ranked, lkXF_rests, lkXF_begun, lkXF_pool, lkXF_rule, lkXF_goals, lkXF_moved, lkXF_can, lkXF_moves, lkXF_clock, lkXF_change, lkXF_first, lkXF_served, lkXF_rests_at, lkXF_chosen, lkXF_is_open, lnXF, lkDF_called, lkDF_then, lkDF_takes, lkDF_hands, lkDF_is_ranked, lkDF_rests, lkDF_begun, lkDF_pool, lkDF_rule, lkDF_goals, lkDF_moved, lkDF_can, lkDF_moves, lkDF_clock, lkDF_change, lkDF_first, lkDF_served, lkDF_rests_at, lkDF_chosen, lkDF_is_open, lnDF, lkKF_called, lkKF_then, lkKF_takes, lkKF_hands, lkKF_is_ranked, lkKF_rests, lkKF_begun, lkKF_pool, lkKF_rule, lkKF_goals, lkKF_moved, lkKF_can, lkKF_moves, lkKF_clock, lkKF_change, lkKF_first, lkKF_served, lkKF_rests_at, lkKF_chosen, lkKF_is_open, lnKF, L_come_2, L_can_2, L_move_2, List.lookup_cons, beq_self_eq_true, nE_Place_Passing, nE_Place_DeskPlace, nE_Place_Visitor, nE_Place_Floor, nE_Passing_Place, nE_Passing_DeskPlace, nE_Passing_Visitor, nE_Passing_Floor, nE_DeskPlace_Place, nE_DeskPlace_Passing, nE_DeskPlace_Visitor, nE_DeskPlace_Floor, nE_Visitor_Place, nE_Visitor_Passing, nE_Visitor_DeskPlace, nE_Visitor_Floor, nE_Floor_Place, nE_Floor_Passing, nE_Floor_DeskPlace, nE_Floor_Visitor, gf, gf1, gfU, gf2, OA, OB, OC, OD, OE, oA, oB, oC, oD, kD, r1, r2, od, orr, ork, os, ou, d1, ew, e1, e2, e3, gnb, ap, z1, z2, z3, z4, eN, eq1, -gEq_pair, -gEq_ints, -gEq_int, -gEq_str, -gEq_bl, -itL]
  · show (((m2.own.set 1 _).set 2 _).set 3 _).set 4 _ = _
    rw [own2, O]
    show _ = [(t.qo, _), (t.qr, Cell.lst ((m2.rows t.dn).map I)), _, _, _]
    rw [rows2, if_pos rfl]
    rfl
  · intro x hx
    have hx : x ∈ m2.rows t.dn := hx
    show _ = some (D.v (.int (match m2.vis[x.toNat]? with | some v => v.grade | none => 0)))
    rw [rows2, if_pos rfl] at hx
    rcases List.mem_append.mp hx with hx | hx
    · obtain ⟨k, rfl, hk⟩ := bd x hx
      rw [atI_old (by omega) (F.K.o3.k _ hx) (by rw [F.lk]; omega), Int.toNat_natCast, vis2, List.getElem?_append_left (by omega)]
      unfold grd
      rw [Int.toNat_natCast]
    · rw [List.mem_singleton.mp hx, Int.toNat_natCast, vis2, ← hN, ← F.lk, atI_new, F.lk, List.getElem?_append_right (Nat.le_refl _), Nat.sub_self]
      show some (D.v (.int r)) = some (.v (.int v2.grade))
      rw [← hv2, ← hv1]
      show _ = some (D.v (.int (m.kz d)))
      rw [hkz]
  · intro x hx
    have hx : x ∈ m2.rows t.dn := hx
    show _ = some (D.v (.int (match m2.vis[x.toNat]? with | some v => v.since | none => 0)))
    rw [rows2, if_pos rfl] at hx
    rcases List.mem_append.mp hx with hx | hx
    · obtain ⟨k, rfl, hk⟩ := bd x hx
      rw [atI_old (by omega) (F.K.o3.s _ hx) (by rw [F.ls]; omega), Int.toNat_natCast, vis2, List.getElem?_append_left (by omega)]
      unfold snc
      rw [Int.toNat_natCast]
    · rw [List.mem_singleton.mp hx, Int.toNat_natCast, vis2, ← hN, ← F.ls, atI_new, F.ls, List.getElem?_append_right (Nat.le_refl _), Nat.sub_self]
      show some (D.v (.int z)) = some (.v (.int v2.since))
      rw [← hv2]
  · intro x hx
    have hx : x ∈ m2.rows t.dn := hx
    show _ = some (tilD (match m2.vis[x.toNat]? with | some v => v.til | none => none))
    rw [rows2, if_pos rfl] at hx
    rcases List.mem_append.mp hx with hx | hx
    · obtain ⟨k, rfl, hk⟩ := bd x hx
      rw [atI_old (by omega) (F.K.o3.u _ hx) (by rw [F.lu]; omega), Int.toNat_natCast, vis2, List.getElem?_append_left (by omega)]
      unfold tlv
      rw [Int.toNat_natCast]
    · rw [List.mem_singleton.mp hx, Int.toNat_natCast, vis2, ← hN, ← F.lu, atI_new, F.lu, List.getElem?_append_right (Nat.le_refl _), Nat.sub_self]
      show some (D.v .non) = some (tilD v2.til)
      rw [← hv2]
      rfl
  · intro x hx
    have hx : x ∈ m2.rows t.dn := hx
    show ∃ (k : Nat) (v : Vz), _ ∧ m2.vis[k]? = some v ∧ _
    rw [rows2, if_pos rfl] at hx
    rw [vis2]
    rcases List.mem_append.mp hx with hx | hx
    · obtain ⟨k, v, rfl, hk, hc⟩ := F.K.rin x hx
      exact ⟨k, v, rfl, by rw [List.getElem?_append_left (List.getElem?_eq_some_iff.mp hk).1]; exact hk, hc⟩
    · exact ⟨N, v2, List.mem_singleton.mp hx, by rw [← hN]; simp, by rw [← hv2]⟩
  · show (m2.rows t.dn).Nodup
    rw [rows2, if_pos rfl]
    refine List.nodup_append.mpr ⟨F.K.nd, by simp, fun a ha b hb e => ?_⟩
    obtain ⟨k, rfl, hk⟩ := bd a ha
    rw [List.mem_singleton.mp hb] at e
    omega
  · show (m2.rows t.dn).length ≤ 900
    rw [rows2, if_pos rfl, List.length_append]
    have := F.lr
    show _ + 1 ≤ 900
    omega
  · intro p hp'
    have D' := F.dr p hp'
    refine ⟨by show p.1 ∈ m2.ns; rw [ns2]; exact D'.hn, by show p.1 ∈ m2.ks; rw [ks2]; exact D'.hk, by show m2.kz p.1 = _; rw [kz2]; exact D'.kz, by show m2.rows p.1 = []; rw [rows2, if_neg D'.n1]; exact D'.row, by show m2.plc p.1 = _; rw [plc2]; exact D'.pl, D'.n1, D'.n2⟩
  · show _ = m2.vis.length
    rw [vis2, List.length_append, List.length_append, F.lk]
    rfl
  · show _ = m2.vis.length
    rw [vis2, List.length_append, List.length_append, F.ls]
    rfl
  · show _ = m2.vis.length
    rw [vis2, List.length_append, List.length_append, F.lu]
    rfl
  · show (m2.rows t.dn).length + (m2.rows t.en).length ≤ m2.vis.length
    rw [rows2, rows2, if_pos rfl, if_neg F.ne, vis2, List.length_append, List.length_append]
    have := F.lr
    show _ + 1 + _ ≤ _ + 1
    omega
  · show m2.vis.length ≤ 60
    rw [vis2, List.length_append]
    show _ + 1 ≤ 60
    omega
theorem ok_law_came (T : Tx K mg Env.Place Env.Passing Env.DeskPlace Env.Visitor Env.Floor Env.cl_DeskPlace_first Env.tl_DeskPlace_first) (h_M_can_2 : OkmL P w K mg base 6 L_can_2 "can" ["self", "number", "turn"]) (h_M_come_2 : OkmL P w K mg base 3 L_come_2 "come" ["self", "name", "turn"]) (h_M_move_2 : OkmL P w K mg base 4 L_move_2 "move" ["self", "number", "turn"]) : Okf P w K mg base 7 "_law_came" ["_law_floor", "_law_own", "_law_door", "_law_turn"] g_law_came := (raw_law_came T h_M_can_2 h_M_come_2 h_M_move_2).by eq_law_came
abbrev slaw : Stmt := (top 27)
abbrev Nlaw : List Str := ["_law_script", "_law_names_here", "_law_cell", "_law_desk_here", "_law_ranks", "_law_doors", "_law_hall", "_law_at", "_law_floor", "_law_own", "_law_turn", "_law_k", "_law_mixed_here", "_law_more", "_law_some", "_law_good", "_law_number"]
theorem sclaw : FnScope Nlaw ["_law_script"] (defScope slaw) := ⟨rfl, rfl, rfl, by decide +kernel, rfl, by decide +kernel, by decide +kernel⟩
noncomputable def claw1e : M D :=
    (dD (dVar 16))
noncomputable def claw1t : M Bool :=
    (dTru (okD (dCall g_law_can (dCons (dD (dVar 9)) (dCons (dD (dVar 16)) (dCons (dD (dVar 10)) dNil))))))
noncomputable def flaw1b : M Fl :=
    (dSeq (dSet 12 (dCall g_law_mixed (dCons (dCall g_law_cell_at (dCons (dD (dVar 0)) (dCons (dOp gAdd (dC (.int 2)) (okD (dOp gMod (dVar 11) (dC (.int 40))))) dNil))) (dCons (dOp gAdd (dC (.int 10)) (dVar 11)) dNil))))
    (dSeq (dSet 13 (dOp gDiv (dVar 12) (dC (.int 8))))
    (dSeq (dSetN 14 (dLcA (dRGet (dVar 9) (dD (dC (.str "row")))) (dName 16) claw1t claw1e [16]))
    (dSeq (dSet 15 (dD (dC (.bl true))))
    (dSeq (dIfS (dAnd (dCmpT (gI iLt) (okD (dOp gMod (dVar 12) (dC (.int 8)))) (dC (.int 3))) (dCmpT (gI iLt) (okD (M.bind (okD (dRGet (dVar 9) (dD (dC (.str "ranks"))))) gLen)) (dC (.int 60)))) (dSet 15 (dCall g_law_came (dCons (dD (dVar 8)) (dCons (dD (dVar 9)) (dCons (dOp gIx (dVar 5) (okD (dOp gMod (dVar 13) (dC (.int 2))))) (dCons (dD (dVar 10)) dNil)))))) (dIfS (dAnd (dCmpT (gI iLt) (okD (dOp gMod (dVar 12) (dC (.int 8)))) (dC (.int 6))) (dCmpT (gEq true) (dVar 14) (okN (dLst dNil)))) (dSet 15 (dCall g_law_moved (dCons (dD (dVar 8)) (dCons (dD (dVar 9)) (dCons (dOp gIx (dVar 14) (okD (dOp gMod (dVar 13) (okD (M.bind (dVar 14) gLen))))) (dCons (dD (dVar 10)) dNil)))))) (dIfS (dAnd (dCmpT (gEq false) (okD (dOp gMod (dVar 12) (dC (.int 8)))) (dC (.int 6))) (dCmpT (gEq false) (okD (dOp gMod (dVar 13) (dC (.int 3)))) (dC (.int 0)))) (dSet 15 (dCall g_law_changed (dCons (dD (dVar 8)) (dCons (dD (dVar 9)) (dCons (dOp gDiv (dVar 13) (dC (.int 3))) dNil))))) (dSet 10 (dOp gAdd (okD (dOp gAdd (dVar 10) (dC (.int 1)))) (okD (dOp gMod (dVar 13) (dC (.int 3)))))))))
    (dIfS (dOr (dNotT (dTru (dVar 15))) (dNotT (dTru (okD (dCall g_law_all_right (dCons (dD (dVar 8)) (dCons (dD (dVar 9)) (dCons (dD (dVar 10)) dNil)))))))) (dRet (dD (dC (.bl false)))) dNx))))))
noncomputable def claw2e : M D :=
    (dTup (dCons (dD (dC (.str "door"))) (dCons (dOp gIx (dVar 1) (okD (dOp gAdd (dC (.int 2)) (dVar 11)))) (dCons (dOp gIx (dVar 4) (dVar 11)) (dCons (dTup (dCons (dD (dC (.str "at"))) (dCons (dTup (dCons (dD (dC (.int 0))) dNil)) dNil))) (dCons (dOp gIx (dVar 1) (dC (.int 0))) dNil))))))
noncomputable def claw3e : M D :=
    (dOp gIx (okN (dLst (dCons (dD (dC (.int 0))) (dCons (dOp gMod (okD (dOp gDiv (dVar 2) (okD (dOp gAdd (dC (.int 5)) (dVar 11))))) (dC (.int 10))) dNil)))) (okD (dOp gMod (okD (dOp gDiv (dVar 2) (dC (.int 2)))) (dC (.int 2)))))
noncomputable def den_law : M Fl :=
    (dSeq (dSet 1 (dCall g_law_names (dCons (dCall g_law_mixed (dCons (dCall g_law_cell_at (dCons (dD (dVar 0)) (dCons (dD (dC (.int 0))) dNil))) (dCons (dD (dC (.int 1))) dNil))) dNil)))
    (dSeq (dSet 2 (dCall g_law_mixed (dCons (dCall g_law_cell_at (dCons (dD (dVar 0)) (dCons (dD (dC (.int 0))) dNil))) (dCons (dD (dC (.int 2))) dNil))))
    (dSeq (dSet 3 (dCall g_law_desk (dCons (dCall g_law_mixed (dCons (dCall g_law_cell_at (dCons (dD (dVar 0)) (dCons (dD (dC (.int 1))) dNil))) (dCons (dD (dC (.int 3))) dNil))) (dCons (dD (dVar 1)) dNil))))
    (dSeq (dSetN 4 (dLc (M.bind (dCons (dD (dC (.int 2))) dNil) rng1X) (dName 11) (M.pure true) claw3e [11]))
    (dSeq (dSetN 5 (dLc (M.bind (dCons (dD (dC (.int 2))) dNil) rng1X) (dName 11) (M.pure true) claw2e [11]))
    (dSeq (dSet 6 (dOp gAdd (okN (dLst (dCons (dD (dVar 3)) (dCons (dTup (dCons (dD (dC (.str "exit"))) (dCons (dOp gIx (dVar 1) (dC (.int 1))) dNil))) dNil)))) (dVar 5)))
    (dSeq (dSet 7 (dOp gMod (okD (dOp gDiv (dVar 2) (dC (.int 7)))) (dC (.int 4))))
    (dSeq (dSet 8 (dMake Env.Floor g_Floor___init__ (dCons (dOp gAdd (okN (dSlL (dVar 6) (M.bind (dVar 7) gPart) (M.pure none))) (okN (dSlL (dVar 6) (M.pure none) (M.bind (dVar 7) gPart)))) dNil)))
    (dSeq (dSet 9 (dDisp [((dD (dC (.str "desk"))), (dD (dVar 3))), ((dD (dC (.str "row"))), (dSt (dLst dNil))), ((dD (dC (.str "ranks"))), (dSt (dLst dNil))), ((dD (dC (.str "since"))), (dSt (dLst dNil))), ((dD (dC (.str "until"))), (dSt (dLst dNil))), ((dD (dC (.str "begun"))), (dD (dC (.int 0))))]))
    (dSeq (dSet 10 (dD (dC (.int 0))))
    (dSeq (dFor (M.bind (dCons (dOp gAdd (dC (.int 10)) (okD (dOp gMod (okD (dOp gDiv (dVar 2) (dC (.int 28)))) (dC (.int 31))))) dNil) rng1X) (dName 11) flaw1b)
    (dRet (dD (dC (.bl true)))))))))))))))
theorem raw_law (T : Tx K mg Env.Place Env.Passing Env.DeskPlace Env.Visitor Env.Floor Env.cl_DeskPlace_first Env.tl_DeskPlace_first) (h_F__law_all_right : Okf P w K mg base 7 "_law_all_right" ["_law_floor", "_law_own", "_law_turn"] g_law_all_right) (h_F__law_came : Okf P w K mg base 7 "_law_came" ["_law_floor", "_law_own", "_law_door", "_law_turn"] g_law_came) (h_F__law_can : Okf P w K mg base 2 "_law_can" ["_law_own", "_law_number", "_law_turn"] g_law_can) (h_F__law_cell_at : Okf P w K mg base 1 "_law_cell_at" ["_law_script", "_law_k"] g_law_cell_at) (h_F__law_changed : Okf P w K mg base 3 "_law_changed" ["_law_floor", "_law_own", "_law_mixed_here"] g_law_changed) (h_F__law_desk : Okf P w K mg base 2 "_law_desk" ["_law_cell", "_law_names_here"] g_law_desk) (h_F__law_mixed : Okf P w K mg base 1 "_law_mixed" ["_law_cell", "_law_k"] g_law_mixed) (h_F__law_moved : Okf P w K mg base 5 "_law_moved" ["_law_floor", "_law_own", "_law_number", "_law_turn"] g_law_moved) (h_F__law_names : Okf P w K mg base 1 "_law_names" ["_law_cell"] g_law_names) (h_I_Floor : Okc P w K mg base 6 "Floor" Env.Floor ["self", "hall"] g_Floor___init__) {f : Addr} {fd : FuncData} (F : Fun K "law" "law" slaw f fd) : FnOk P w K mg base (L2N.CX P w) 8 f fd ["_law_script"] (spG K (runD 17 1 den_law)) := by
  have sc := sclaw
  exact fn_ok (N := Nlaw) F sc rfl (by decide) fun cdv A outer s H E hr => ⟨_, ((bd_cons (sd_set (i := 1) sc.nd rfl (by first | exact Or.inl rfl | exact Or.inr rfl) (dd_fn h_F__law_names (hr.mono (by decide)) (by rfl) (pol_of (L2N.takes_of rfl rfl rfl rfl)) (ad_cons (dd_fn h_F__law_mixed (hr.mono (by decide)) (by rfl) (pol_of (L2N.takes_of rfl rfl rfl rfl)) (ad_cons (dd_fn h_F__law_cell_at (hr.mono (by decide)) (by rfl) (pol_of (L2N.takes_of rfl rfl rfl rfl)) (ad_cons (ED.d (ed_var 0)) (ad_cons (ED.d ed_int) ad_nil))) (ad_cons (ED.d ed_int) ad_nil))) ad_nil)))
    (bd_cons (sd_set (i := 2) sc.nd rfl (by first | exact Or.inl rfl | exact Or.inr rfl) (dd_fn h_F__law_mixed (hr.mono (by decide)) (by rfl) (pol_of (L2N.takes_of rfl rfl rfl rfl)) (ad_cons (dd_fn h_F__law_cell_at (hr.mono (by decide)) (by rfl) (pol_of (L2N.takes_of rfl rfl rfl rfl)) (ad_cons (ED.d (ed_var 0)) (ad_cons (ED.d ed_int) ad_nil))) (ad_cons (ED.d ed_int) ad_nil))))
    (bd_cons (sd_set (i := 3) sc.nd rfl (by first | exact Or.inl rfl | exact Or.inr rfl) (dd_fn h_F__law_desk (hr.mono (by decide)) (by rfl) (pol_of (L2N.takes_of rfl rfl rfl rfl)) (ad_cons (dd_fn h_F__law_mixed (hr.mono (by decide)) (by rfl) (pol_of (L2N.takes_of rfl rfl rfl rfl)) (ad_cons (dd_fn h_F__law_cell_at (hr.mono (by decide)) (by rfl) (pol_of (L2N.takes_of rfl rfl rfl rfl)) (ad_cons (ED.d (ed_var 0)) (ad_cons (ED.d ed_int) ad_nil))) (ad_cons (ED.d ed_int) ad_nil))) (ad_cons (ED.d (ed_var 1)) ad_nil))))
    (bd_cons (sd_setN (i := 4) sc.nd rfl (by first | exact Or.inl rfl | exact Or.inr rfl) (en_lc (own := [("_law_k", 11)]) (W' := W0) rfl sc.nd (id_range1 (by rfl) T.n_range (ad_cons (ED.d ed_int) ad_nil)) (blkOk_by (N := Nlaw) (sc := defScope slaw) (by decide +kernel)) (fun _ _ _ _ _ => (gd_name (i := 11) sc.nd rfl (by first | exact Or.inl rfl | exact Or.inr rfl))) (fun _ _ _ _ _ => tsd_nil) (fun _ _ _ _ _ => (dd_ix (EN.e (en_lst (ad_cons (ED.d ed_int) (ad_cons (dd_mod (DD.e (dd_div (ed_var 2) (DD.e (dd_add ed_int (ed_var 11))))) ed_int) ad_nil)))) (DD.e (dd_mod (DD.e (dd_div (ed_var 2) ed_int)) ed_int)) (fun _ _ => rfl)))))
    (bd_cons (sd_setLc (i := 5) (own := [("_law_k", 11)]) (W' := W0) rfl sc.nd rfl rfl (sw_true rfl rfl rfl (by decide +kernel)) (id_range1 (by rfl) T.n_range (ad_cons (ED.d ed_int) ad_nil)) (blkOk_by (N := Nlaw) (sc := defScope slaw) (by decide +kernel)) (fun _ _ _ _ _ => (gd_name (i := 11) sc.nd rfl (by first | exact Or.inl rfl | exact Or.inr rfl))) (fun _ _ _ _ _ => tsd_nil) (fun _ _ _ _ _ => (dd_tup (ad_cons (ED.d ed_str) (ad_cons (dd_ix (ed_var 1) (DD.e (dd_add ed_int (ed_var 11))) (fun _ _ => rfl)) (ad_cons (dd_ix (ed_var 4) (ed_var 11) (fun _ _ => rfl)) (ad_cons (dd_tup (ad_cons (ED.d ed_str) (ad_cons (dd_tup (ad_cons (ED.d ed_int) ad_nil)) ad_nil))) (ad_cons (dd_ix (ed_var 1) ed_int (fun _ _ => rfl)) ad_nil))))))))
    (bd_cons (sd_set (i := 6) sc.nd rfl (by first | exact Or.inl rfl | exact Or.inr rfl) (dd_add (EN.e (en_lst (ad_cons (ED.d (ed_var 3)) (ad_cons (dd_tup (ad_cons (ED.d ed_str) (ad_cons (dd_ix (ed_var 1) ed_int (fun _ _ => rfl)) ad_nil))) ad_nil)))) (ed_var 5)))
    (bd_cons (sd_set (i := 7) sc.nd rfl (by first | exact Or.inl rfl | exact Or.inr rfl) (dd_mod (DD.e (dd_div (ed_var 2) ed_int)) ed_int))
    (bd_cons (sd_set (i := 8) sc.nd rfl (by first | exact Or.inl rfl | exact Or.inr rfl) (dd_make h_I_Floor (hr.mono (by decide)) (by rfl) (ad_cons (dd_add (EN.e (en_slice (ed_var 6) (od_some (ed_var 7)) od_none)) (EN.e (en_slice (ed_var 6) od_none (od_some (ed_var 7))))) ad_nil)))
    (bd_cons (sd_set (i := 9) sc.nd rfl (by first | exact Or.inl rfl | exact Or.inr rfl) (dd_disp (ppd_cons (ED.d ed_str) (ED.d (ed_var 3)) (ppd_cons (ED.d ed_str) (dd_st (en_lst ad_nil)) (ppd_cons (ED.d ed_str) (dd_st (en_lst ad_nil)) (ppd_cons (ED.d ed_str) (dd_st (en_lst ad_nil)) (ppd_cons (ED.d ed_str) (dd_st (en_lst ad_nil)) (ppd_cons (ED.d ed_str) (ED.d ed_int) ppd_nil))))))))
    (bd_cons (sd_set (i := 10) sc.nd rfl (by first | exact Or.inl rfl | exact Or.inr rfl) (ED.d ed_int))
    (bd_cons (sd_for (passes_of rfl) rfl (id_range1 (by rfl) T.n_range (ad_cons (dd_add ed_int (DD.e (dd_mod (DD.e (dd_div (ed_var 2) ed_int)) ed_int))) ad_nil)) (gd_name (i := 11) sc.nd rfl (by first | exact Or.inl rfl | exact Or.inr rfl)) (bd_cons (sd_set (i := 12) sc.nd rfl (by first | exact Or.inl rfl | exact Or.inr rfl) (dd_fn h_F__law_mixed (hr.mono (by decide)) (by rfl) (pol_of (L2N.takes_of rfl rfl rfl rfl)) (ad_cons (dd_fn h_F__law_cell_at (hr.mono (by decide)) (by rfl) (pol_of (L2N.takes_of rfl rfl rfl rfl)) (ad_cons (ED.d (ed_var 0)) (ad_cons (dd_add ed_int (DD.e (dd_mod (ed_var 11) ed_int))) ad_nil))) (ad_cons (dd_add ed_int (ed_var 11)) ad_nil))))
    (bd_cons (sd_set (i := 13) sc.nd rfl (by first | exact Or.inl rfl | exact Or.inr rfl) (dd_div (ed_var 12) ed_int))
    (bd_cons (sd_setLcA (i := 14) (own := [("_law_number", 16)]) (W' := W0) rfl sc.nd rfl rfl (sw_true rfl rfl rfl (by decide +kernel)) (dd_rget (u1 hr) (ed_var 9) (ED.d ed_str)) (blkOk_by (N := Nlaw) (sc := defScope slaw) (by decide +kernel)) (fun _ _ _ _ _ => (gd_name (i := 16) sc.nd rfl (by first | exact Or.inl rfl | exact Or.inr rfl))) (fun _ _ _ _ _ => (tsd_one (td_val (DD.e (dd_fn h_F__law_can (hr.mono (by decide)) (by rfl) pol0 (ad_cons (ED.d (ed_var 9)) (ad_cons (ED.d (ed_var 16)) (ad_cons (ED.d (ed_var 10)) ad_nil)))))))) (fun _ _ _ _ _ => (ED.d (ed_var 16))))
    (bd_cons (sd_set (i := 15) sc.nd rfl (by first | exact Or.inl rfl | exact Or.inr rfl) (ED.d ed_bl))
    (bd_cons (sd_if (td_w (wd_and (td_cmp cLt (DD.e (dd_mod (ed_var 12) ed_int)) ed_int (nomark _)) (wd_and1 (td_cmp cLt (DD.e (dd_b1 bLen (by rfl) T.n_len (by decide +kernel) (DD.e (dd_rget (u1 hr) (ed_var 9) (ED.d ed_str))))) ed_int (nomark _))))) (bd_one (sd_set (i := 15) sc.nd rfl (by first | exact Or.inl rfl | exact Or.inr rfl) (dd_fn h_F__law_came (hr.mono (by decide)) (by rfl) (pol_of (L2N.takes_of rfl rfl rfl rfl)) (ad_cons (ED.d (ed_var 8)) (ad_cons (ED.d (ed_var 9)) (ad_cons (dd_ix (ed_var 5) (DD.e (dd_mod (ed_var 13) ed_int)) (fun _ _ => rfl)) (ad_cons (ED.d (ed_var 10)) ad_nil))))))) (bd_one (sd_if (td_w (wd_and (td_cmp cLt (DD.e (dd_mod (ed_var 12) ed_int)) ed_int (nomark _)) (wd_and1 (td_cmp (cNe hr.units) (ed_var 14) (EN.e (en_lst ad_nil)) (nomark _))))) (bd_one (sd_set (i := 15) sc.nd rfl (by first | exact Or.inl rfl | exact Or.inr rfl) (dd_fn h_F__law_moved (hr.mono (by decide)) (by rfl) (pol_of (L2N.takes_of rfl rfl rfl rfl)) (ad_cons (ED.d (ed_var 8)) (ad_cons (ED.d (ed_var 9)) (ad_cons (dd_ix (ed_var 14) (DD.e (dd_mod (ed_var 13) (DD.e (dd_b1 bLen (by rfl) T.n_len (by decide +kernel) (ed_var 14))))) (fun _ _ => rfl)) (ad_cons (ED.d (ed_var 10)) ad_nil))))))) (bd_one (sd_if (td_w (wd_and (td_cmp (cEq hr.units) (DD.e (dd_mod (ed_var 12) ed_int)) ed_int (nomark _)) (wd_and1 (td_cmp (cEq hr.units) (DD.e (dd_mod (ed_var 13) ed_int)) ed_int (nomark _))))) (bd_one (sd_set (i := 15) sc.nd rfl (by first | exact Or.inl rfl | exact Or.inr rfl) (dd_fn h_F__law_changed (hr.mono (by decide)) (by rfl) (pol_of (L2N.takes_of rfl rfl rfl rfl)) (ad_cons (ED.d (ed_var 8)) (ad_cons (ED.d (ed_var 9)) (ad_cons (dd_div (ed_var 13) ed_int) ad_nil)))))) (bd_one (sd_set (i := 10) sc.nd rfl (by first | exact Or.inl rfl | exact Or.inr rfl) (dd_add (DD.e (dd_add (ed_var 10) ed_int)) (DD.e (dd_mod (ed_var 13) ed_int))))))))))
    (bd_one (sd_if (td_w (wd_or (td_not (td_val (ed_var 15))) (wd_or1 (td_not (td_val (DD.e (dd_fn h_F__law_all_right (hr.mono (by decide)) (by rfl) (pol_of (L2N.takes_of rfl rfl rfl rfl)) (ad_cons (ED.d (ed_var 8)) (ad_cons (ED.d (ed_var 9)) (ad_cons (ED.d (ed_var 10)) ad_nil)))))))))) (bd_one (sd_ret (ED.d ed_bl))) bd_nil))))))))
    (bd_one (sd_ret (ED.d ed_bl)))))))))))))) : BD _ _ _ _ den_law)⟩
theorem ixN_of {n k : Nat} (h : k < n) : ixN n ((k : Nat) : Int) = some k := by
  unfold ixN
  simp
  omega
theorem atI_set_ne {l : List D} {k : Nat} {x : Int} {d e : D} (h0 : 0 ≤ x) (hx : x ≠ ((k : Nat) : Int)) (h : atI l x = some d) : atI (l.set k e) x = some d := by
  obtain ⟨j, rfl⟩ : ∃ j : Nat, x = j := ⟨x.toNat, by omega⟩
  unfold atI at h ⊢
  rw [List.length_set]
  cases q : ixN l.length (j : Int) with
  | none => rw [q] at h; cases h
  | some i =>
    rw [q] at h
    have e1 : i = j := by
      unfold ixN at q
      rw [if_pos (by omega)] at q
      split at q
      · have := Option.some.inj q
        omega
      · cases q
    subst e1
    show (l.set k e)[i]? = _
    rw [List.getElem?_set_ne (fun z => hx (by rw [z]))]
    exact h
theorem atI_set_eq {l : List D} {k : Nat} {e : D} (h : k < l.length) : atI (l.set k e) ((k : Nat) : Int) = some e := atI_nat (List.getElem?_set_self h)
theorem moved_on {t : Kt} {doors : List (Str × Int)} {L : Lay} {m : Fm} {hd : Int} {ts : List Int} {c : Int} {RK SL UL : List D} {S : List Cell} (F : FInv t doors L m hd ts c RK SL UL S) {x : Int} (hx : x ∈ m.rows t.dn) (hu : tlv m x = none) (z : Int) :
    ∃ m' UL' S', g_law_moved [.loc L.f, .loc t.qo, .v (.int x), .v (.int z)] S = .ok (.v (.bl true)) S' ∧ FInv t doors L m' hd ts (c + 1) RK SL UL' S' := by
  obtain ⟨k, v, rfl, hk, hc⟩ := F.K.rin x hx
  have hkl := (List.getElem?_eq_some_iff.mp hk).1
  have hu : v.til = none := by
    unfold tlv at hu
    rw [Int.toNat_natCast, hk] at hu
    exact hu
  have rdl : (m.rows t.dn).length < 1000 := Nat.lt_of_le_of_lt F.K.len (by decide)
  have rel : (m.rows t.en).length < 1000 := by have := F.lr; have := F.lv; omega
  obtain ⟨S1, e1, h1⟩ := fmove_ok F.K.fa hk (by rw [hc]; exact F.K.hn) (.desk t.dn hd ts t.kk t.rs t.en) c (by rw [hc]; exact F.K.pl) hc.symm rfl rfl F.hen (by rw [hc]; exact hx) (by rw [hc]; exact rdl) rel (fun _ _ _ _ _ _ e => by cases e; exact F.K.ht.1) z
  have eg : goS m k v z c (.desk t.dn hd ts t.kk t.rs t.en) = (m.setVis k { v with til := some (z + tkAt ts c) }).setPl v.called (plcS (.desk t.dn hd ts t.kk t.rs t.en) (c + 1)) := by
    unfold goS
    dsimp only
    rw [hu]
  have ew : wordS v (.desk t.dn hd ts t.kk t.rs t.en) = (Str.ofString "begins", t.dn) := by
    unfold wordS
    dsimp only
    rw [hu, hc]
  rw [eg, congrArg (fun n => (m.setVis k { v with til := some (z + tkAt ts c) }).setPl n (plcS (.desk t.dn hd ts t.kk t.rs t.en) (c + 1))) hc] at h1
  rw [ew] at e1
  obtain ⟨m1, hm1⟩ : ∃ m1, (m.setVis k { v with til := some (z + tkAt ts c) }).setPl t.dn (plcS (.desk t.dn hd ts t.kk t.rs t.en) (c + 1)) = m1 := ⟨_, rfl⟩
  rw [hm1] at h1
  have vis1 : m1.vis = m.vis.set k { v with til := some (z + tkAt ts c) } := by rw [← hm1]; rfl
  have rows1 : m1.rows = m.rows := by rw [← hm1]; rfl
  have plc1 : ∀ n, m1.plc n = if n = t.dn then plcS (.desk t.dn hd ts t.kk t.rs t.en) (c + 1) else m.plc n := fun n => by rw [← hm1]; rfl
  have ns1 : m1.ns = m.ns := by rw [← hm1]; rfl
  have ks1 : m1.ks = m.ks := by rw [← hm1]; rfl
  have kz1 : m1.kz = m.kz := by rw [← hm1]; rfl
  have own1 : m1.own = m.own := by rw [← hm1]; rfl
  have O := F.K.own
  have hA := h1.setOwn (i := 4) (a := t.qu) (c0 := .lst UL) (by rw [own1, O]; rfl) (.lst (UL.set k (.v (.int (z + tkAt ts c)))))
  have hB := hA.setOwn (i := 0) (a := t.qo) (c0 := .dct (ownD t hd ts c)) (by show (m1.own.set 4 _)[0]? = _; rw [own1, O]; rfl) (.dct (ownD t hd ts (c + 1)))
  have visn : ∀ j : Nat, j ≠ k → m1.vis[j]? = m.vis[j]? := fun j hj => by rw [vis1, List.getElem?_set_ne (Ne.symm hj)]
  have visk : m1.vis[k]? = some { v with til := some (z + tkAt ts c) } := by rw [vis1, List.getElem?_set_self hkl]
  refine ⟨_, UL.set k (.v (.int (z + tkAt ts c))), _, ?_, ⟨⟨hB, ?_, ⟨?_, ?_, ?_⟩, by show t.dn ∈ m1.ns; rw [ns1]; exact F.K.hn, by show m1.plc t.dn = _; rw [plc1, if_pos rfl], ?_, by show (m1.rows t.dn).Nodup; rw [rows1]; exact F.K.nd, by show (m1.rows t.dn).length ≤ 900; rw [rows1]; exact F.K.len, F.K.ht, F.K.hr⟩, by show t.en ∈ m1.ns; rw [ns1]; exact F.hen, F.ne, ?_, ?_, ?_, ?_, ?_, ?_⟩⟩
  · have gf := F.K.fa.gf
    have ow := F.K.ow
    have o := ow.o
    have u := ow.u
    have o1 := h1.gow (i := 0) (a := t.qo) (c := .dct (ownD t hd ts c)) (by rw [own1, O]; rfl)
    have u1 := h1.gow (i := 4) (a := t.qu) (c := .lst UL) (by rw [own1, O]; rfl)
    have oA := hA.gow (i := 0) (a := t.qo) (c := .dct (ownD t hd ts c)) (by show (m1.own.set 4 _)[0]? = _; rw [own1, O]; rfl)
    have ux := F.K.o3.u _ hx
    have et : tlv m ((k : Nat) : Int) = none := by
      unfold tlv
      rw [Int.toNat_natCast, hk]
      exact hu
    have tn : tilD none = .v .non := rfl
    rw [et, tn] at ux
    have od := ow_desk t hd ts c
    have ou := ow_until t hd ts c
    have ob := ow_begun t hd ts c
    have opb := op_begun t hd ts c (c + 1)
    have ol := ow_len t hd ts c
    have d1 := dk1 t hd ts
    have d3 := dk3 t hd ts
    unfold deskD rowT at od
    have ta := tk_at F.K.ht.1 c
    have tl : ((ts.map I).length : Int) = ts.length := by rw [List.length_map]
    have tz : ((ts.length : Int) = 0) = False := eq_false (by have := F.K.ht.1; omega)
    have ix : ixN UL.length ((k : Nat) : Int) = some k := ixN_of (by rw [F.lu]; exact hkl)
    have eb : ∀ c, gEq false (.d (.tup [.v (.str (Str.ofString "begins")), .v (.str t.dn)])) (.d (.tup [.v (.str (Str.ofString "begins")), .v (.str t.dn)])) c = .ok (.v (.bl true)) c := fun c => gEq_selfD (neg := false) (p := .tuple [.str (Str.ofString "begins"), .str t.dn]) rfl (by simp [PyData.depth, PyData.depthAll])
    have l6 : (6 : Nat) < 1000000 := by decide
    generalize ownD t hd ts (c + 1) = ow2 at *
    generalize tkAt ts c = tt at *
    generalize (ts.length : Int) = tn' at *
    generalize ts.map I = TS at *
    generalize (Sta.desk t.dn hd ts t.kk t.rs t.en).row = dr at *
    generalize ((k : Nat) : Int) = kz at *
    generalize ownD t hd ts c = ow' at *
    simp_arith [g_law_moved, den_law_moved, dFldA, dSetFA, dMethL, dMeth, insA, insD, dRGet, rdcD, dctD, keyD, dSt, dDAug, rol, spl, izl, gsl, Sdl, vcell, tilD, dFldAug, dRGet, rdcD, dctD, keyD, dIdx, dPut, dAugL, dDAug, dDPut, dSt, lkV1, lkV2, lkV3, lkV4, lkV5, ptV1, ptV2, ptV3, lnV, lkF1, lkF2, lkF3, lkF4, lkF5, lkFa, lkFb, lkFc, lkFd, lkFe, lkFf, lkFg, lkFh, lkFi, lkFj, lkFk, lkFl, lkFm, lkFn, lkFo, lkFp, mC_Place_called, mC_Passing_called, mC_DeskPlace_called, mC_Visitor_called, mC_Passing_then, mC_DeskPlace_then, mC_DeskPlace_hands, mC_DeskPlace_takes, mC_DeskPlace_is_ranked, mC_DeskPlace_rests, mC_DeskPlace_begun, mC_Visitor_since, mC_Visitor_until, mC_Visitor_things, mC_Visitor_grade, mC_Floor_guests, mC_Floor_rows, mC_Floor_spots, mC_Floor_ranks, mC_Floor_pools, lkXF_called, lkXF_then, lkXF_takes, lkXF_hands, lkXF_is_ranked, lkXF_rests, lkXF_begun, lkXF_pool, lkXF_rule, lkXF_goals, lkXF_moved, lkXF_can, lkXF_moves, lkXF_clock, lkXF_change, lkXF_first, lkXF_served, lkXF_rests_at, lkXF_chosen, lkXF_is_open, lnXF, lkDF_called, lkDF_then, lkDF_takes, lkDF_hands, lkDF_is_ranked, lkDF_rests, lkDF_begun, lkDF_pool, lkDF_rule, lkDF_goals, lkDF_moved, lkDF_can, lkDF_moves, lkDF_clock, lkDF_change, lkDF_first, lkDF_served, lkDF_rests_at, lkDF_chosen, lkDF_is_open, lnDF, lkKF_called, lkKF_then, lkKF_takes, lkKF_hands, lkKF_is_ranked, lkKF_rests, lkKF_begun, lkKF_pool, lkKF_rule, lkKF_goals, lkKF_moved, lkKF_can, lkKF_moves, lkKF_clock, lkKF_change, lkKF_first, lkKF_served, lkKF_rests_at, lkKF_chosen, lkKF_is_open, lnKF, L_move_2, List.lookup_cons, beq_self_eq_true, nE_Place_Passing, nE_Place_DeskPlace, nE_Place_Visitor, nE_Place_Floor, nE_Passing_Place, nE_Passing_DeskPlace, nE_Passing_Visitor, nE_Passing_Floor, nE_DeskPlace_Place, nE_DeskPlace_Passing, nE_DeskPlace_Visitor, nE_DeskPlace_Floor, nE_Visitor_Place, nE_Visitor_Passing, nE_Visitor_DeskPlace, nE_Visitor_Floor, nE_Floor_Place, nE_Floor_Passing, nE_Floor_DeskPlace, nE_Floor_Visitor, gf, o, u, o1, u1, oA, ux, od, ou, ob, opb, ol, d1, d3, ta, tl, tz, ix, eb, e1, l6, -gEq_pair, -gEq_ints, -gEq_int, -gEq_str, -gEq_bl, -itL]
  · show (m1.own.set 4 _).set 0 _ = _
    rw [own1, O]
    show _ = [(t.qo, _), (t.qr, Cell.lst ((m1.rows t.dn).map I)), _, _, _]
    rw [rows1]
    rfl
  · intro y hy
    have hy : y ∈ m1.rows t.dn := hy
    rw [rows1] at hy
    rw [F.K.o3.k y hy]
    obtain ⟨j, w, rfl, hj, _⟩ := F.K.rin y hy
    show _ = some (D.v (.int (match m1.vis[((j : Nat) : Int).toNat]? with | some v => v.grade | none => 0)))
    unfold grd
    rw [Int.toNat_natCast]
    by_cases q : j = k
    · subst q
      rw [visk, hk]
    · rw [visn j q]
  · intro y hy
    have hy : y ∈ m1.rows t.dn := hy
    rw [rows1] at hy
    rw [F.K.o3.s y hy]
    obtain ⟨j, w, rfl, hj, _⟩ := F.K.rin y hy
    show _ = some (D.v (.int (match m1.vis[((j : Nat) : Int).toNat]? with | some v => v.since | none => 0)))
    unfold snc
    rw [Int.toNat_natCast]
    by_cases q : j = k
    · subst q
      rw [visk, hk]
    · rw [visn j q]
  · intro y hy
    have hy : y ∈ m1.rows t.dn := hy
    rw [rows1] at hy
    have old := F.K.o3.u y hy
    obtain ⟨j, w, rfl, hj, _⟩ := F.K.rin y hy
    show _ = some (tilD (match m1.vis[((j : Nat) : Int).toNat]? with | some v => v.til | none => none))
    rw [Int.toNat_natCast]
    by_cases q : j = k
    · subst q
      rw [visk, atI_set_eq (by rw [F.lu]; exact hkl)]
      rfl
    · rw [visn j q, atI_set_ne (by omega) (fun z => q (by omega)) old]
      unfold tlv
      rw [Int.toNat_natCast]
  · intro y hy
    have hy : y ∈ m1.rows t.dn := hy
    rw [rows1] at hy
    show ∃ (k : Nat) (v : Vz), _ ∧ m1.vis[k]? = some v ∧ _
    obtain ⟨j, w, rfl, hj, hw⟩ := F.K.rin y hy
    by_cases q : j = k
    · subst q
      exact ⟨j, _, rfl, visk, hc⟩
    · exact ⟨j, w, rfl, by rw [visn j q]; exact hj, hw⟩
  · intro p hp'
    have D' := F.dr p hp'
    refine ⟨by show p.1 ∈ m1.ns; rw [ns1]; exact D'.hn, by show p.1 ∈ m1.ks; rw [ks1]; exact D'.hk, by show m1.kz p.1 = _; rw [kz1]; exact D'.kz, by show m1.rows p.1 = []; rw [rows1]; exact D'.row, by show m1.plc p.1 = _; rw [plc1, if_neg D'.n1]; exact D'.pl, D'.n1, D'.n2⟩
  · show _ = m1.vis.length
    rw [vis1, List.length_set, F.lk]
  · show _ = m1.vis.length
    rw [vis1, List.length_set, F.ls]
  · show _ = m1.vis.length
    rw [vis1, List.length_set, List.length_set, F.lu]
  · show (m1.rows t.dn).length + (m1.rows t.en).length ≤ m1.vis.length
    rw [rows1, vis1, List.length_set]
    exact F.lr
  · show m1.vis.length ≤ 60
    rw [vis1, List.length_set]
    exact F.lv
theorem moved_off {t : Kt} {doors : List (Str × Int)} {L : Lay} {m : Fm} {hd : Int} {ts : List Int} {c : Int} {RK SL UL : List D} {S : List Cell} (F : FInv t doors L m hd ts c RK SL UL S) {x : Int} (hx : x ∈ m.rows t.dn) {u : Int} (hu : tlv m x = some u) (z : Int) :
    ∃ m' S', g_law_moved [.loc L.f, .loc t.qo, .v (.int x), .v (.int z)] S = .ok (.v (.bl true)) S' ∧ FInv t doors L m' hd ts c RK SL UL S' := by
  obtain ⟨k, v, rfl, hk, hc⟩ := F.K.rin x hx
  have hkl := (List.getElem?_eq_some_iff.mp hk).1
  have hu : v.til = some u := by
    unfold tlv at hu
    rw [Int.toNat_natCast, hk] at hu
    exact hu
  have rdl : (m.rows t.dn).length < 1000 := Nat.lt_of_le_of_lt F.K.len (by decide)
  have rel : (m.rows t.en).length < 1000 := by have := F.lr; have := F.lv; omega
  obtain ⟨S1, e1, h1⟩ := fmove_ok F.K.fa hk (by rw [hc]; exact F.K.hn) (.desk t.dn hd ts t.kk t.rs t.en) c (by rw [hc]; exact F.K.pl) hc.symm rfl rfl F.hen (by rw [hc]; exact hx) (by rw [hc]; exact rdl) rel (fun _ _ _ _ _ _ e => by cases e; exact F.K.ht.1) z
  have eg : goS m k v z c (.desk t.dn hd ts t.kk t.rs t.en) = m.enter k v t.en z := by
    unfold goS
    dsimp only
    rw [hu]
  have ew : wordS v (.desk t.dn hd ts t.kk t.rs t.en) = (Str.ofString "enters", t.en) := by
    unfold wordS
    dsimp only
    rw [hu]
  rw [eg] at h1
  rw [ew] at e1
  obtain ⟨m1, hm1⟩ : ∃ m1, m.enter k v t.en z = m1 := ⟨_, rfl⟩
  rw [hm1] at h1
  have vis1 : m1.vis = m.vis.set k { v with called := t.en, since := z, til := none } := by rw [← hm1]; rfl
  have rows1 : ∀ n, m1.rows n = if n = t.en then m.rows t.en ++ [((k : Nat) : Int)] else if n = t.dn then (m.rows t.dn).erase (k : Nat) else m.rows n := fun n => by
    rw [← hm1]
    show (if n = t.en then (if t.en = v.called then (m.rows v.called).erase (k : Nat) else m.rows t.en) ++ [((k : Nat) : Int)] else if n = v.called then (m.rows v.called).erase (k : Nat) else m.rows n) = _
    rw [hc, if_neg F.ne]
  have plc1 : m1.plc = m.plc := by rw [← hm1]; rfl
  have ns1 : m1.ns = m.ns := by rw [← hm1]; rfl
  have ks1 : m1.ks = m.ks := by rw [← hm1]; rfl
  have kz1 : m1.kz = m.kz := by rw [← hm1]; rfl
  have own1 : m1.own = m.own := by rw [← hm1]; rfl
  have rd1 : m1.rows t.dn = (m.rows t.dn).erase (k : Nat) := by rw [rows1, if_neg (Ne.symm F.ne), if_pos rfl]
  have O := F.K.own
  have hA := h1.setOwn (i := 1) (a := t.qr) (c0 := .lst ((m.rows t.dn).map I)) (by rw [own1, O]; rfl) (.lst (((m.rows t.dn).erase (k : Nat)).map I))
  have visn : ∀ j : Nat, j ≠ k → m1.vis[j]? = m.vis[j]? := fun j hj => by rw [vis1, List.getElem?_set_ne (Ne.symm hj)]
  have visk : m1.vis[k]? = some { v with called := t.en, since := z, til := none } := by rw [vis1, List.getElem?_set_self hkl]
  have sub : ∀ y ∈ m1.rows t.dn, y ∈ m.rows t.dn ∧ y ≠ ((k : Nat) : Int) := fun y hy => by
    rw [rd1] at hy
    exact ⟨List.mem_of_mem_erase hy, fun e => by rw [e] at hy; exact F.K.nd.not_mem_erase hy⟩
  refine ⟨_, _, ?_, ⟨⟨hA, ?_, ⟨?_, ?_, ?_⟩, by show t.dn ∈ m1.ns; rw [ns1]; exact F.K.hn, by show m1.plc t.dn = _; rw [plc1]; exact F.K.pl, ?_, by show (m1.rows t.dn).Nodup; rw [rd1]; exact F.K.nd.erase _, ?_, F.K.ht, F.K.hr⟩, by show t.en ∈ m1.ns; rw [ns1]; exact F.hen, F.ne, ?_, ?_, ?_, ?_, ?_, ?_⟩⟩
  · have gf := F.K.fa.gf
    have gfA := hA.gf
    have ow := F.K.ow
    have o := ow.o
    have o1 := h1.gow (i := 0) (a := t.qo) (c := .dct (ownD t hd ts c)) (by rw [own1, O]; rfl)
    have u1 := h1.gow (i := 4) (a := t.qu) (c := .lst UL) (by rw [own1, O]; rfl)
    have r1 := h1.gow (i := 1) (a := t.qr) (c := .lst ((m.rows t.dn).map I)) (by rw [own1, O]; rfl)
    have ux := F.K.o3.u _ hx
    have et : tlv m ((k : Nat) : Int) = some u := by
      unfold tlv
      rw [Int.toNat_natCast, hk]
      exact hu
    have tn : tilD (some u) = .v (.int u) := rfl
    rw [et, tn] at ux
    have wh := where_ok hA (k := k) (v := { v with called := t.en, since := z, til := none }) visk
    dsimp only at wh
    have tn2 : tilD none = .v .non := rfl
    rw [tn2] at wh
    have ws := fun c => wh_self false t.en z none c
    rw [tn2] at ws
    have od := ow_desk t hd ts c
    have orr := ow_row t hd ts c
    have ou := ow_until t hd ts c
    have d6 := dk6 t hd ts
    unfold deskD rowT at od
    obtain ⟨j, j1, j2⟩ := rem_int hx
    have dz : (PyData.int ((k : Nat) : Int)).depth ≤ 64 := Nat.le_trans (PySem.W.Datum.depth_le ((k : Nat) : Int)) (by decide)
    have pr := pyDs_ints (m.rows t.dn)
    have eb : ∀ c, gEq false (.d (.tup [.v (.str (Str.ofString "enters")), .v (.str t.en)])) (.d (.tup [.v (.str (Str.ofString "enters")), .v (.str t.en)])) c = .ok (.v (.bl true)) c := fun c => gEq_selfD (neg := false) (p := .tuple [.str (Str.ofString "enters"), .str t.en]) rfl (by simp [PyData.depth, PyData.depthAll])
    generalize ((m.rows t.dn).erase (k : Nat)).map I = RE at *
    generalize (m.rows t.dn).map PyData.int = RP at *
    generalize (m.rows t.dn).map I = RI at *
    generalize (Sta.desk t.dn hd ts t.kk t.rs t.en).row = dr at *
    generalize ((k : Nat) : Int) = kz at *
    generalize ownD t hd ts c = ow' at *
    simp_arith [g_law_moved, den_law_moved, dRem, pyO_int, dFldA, dSetFA, dMethL, dMeth, insA, insD, dRGet, rdcD, dctD, keyD, dSt, dDAug, rol, spl, izl, gsl, Sdl, vcell, tilD, dFldAug, dRGet, rdcD, dctD, keyD, dIdx, dPut, dAugL, dDAug, dDPut, dSt, lkV1, lkV2, lkV3, lkV4, lkV5, ptV1, ptV2, ptV3, lnV, lkF1, lkF2, lkF3, lkF4, lkF5, lkFa, lkFb, lkFc, lkFd, lkFe, lkFf, lkFg, lkFh, lkFi, lkFj, lkFk, lkFl, lkFm, lkFn, lkFo, lkFp, mC_Place_called, mC_Passing_called, mC_DeskPlace_called, mC_Visitor_called, mC_Passing_then, mC_DeskPlace_then, mC_DeskPlace_hands, mC_DeskPlace_takes, mC_DeskPlace_is_ranked, mC_DeskPlace_rests, mC_DeskPlace_begun, mC_Visitor_since, mC_Visitor_until, mC_Visitor_things, mC_Visitor_grade, mC_Floor_guests, mC_Floor_rows, mC_Floor_spots, mC_Floor_ranks, mC_Floor_pools, lkXF_called, lkXF_then, lkXF_takes, lkXF_hands, lkXF_is_ranked, lkXF_rests, lkXF_begun, lkXF_pool, lkXF_rule, lkXF_goals, lkXF_moved, lkXF_can, lkXF_moves, lkXF_clock, lkXF_change, lkXF_first, lkXF_served, lkXF_rests_at, lkXF_chosen, lkXF_is_open, lnXF, lkDF_called, lkDF_then, lkDF_takes, lkDF_hands, lkDF_is_ranked, lkDF_rests, lkDF_begun, lkDF_pool, lkDF_rule, lkDF_goals, lkDF_moved, lkDF_can, lkDF_moves, lkDF_clock, lkDF_change, lkDF_first, lkDF_served, lkDF_rests_at, lkDF_chosen, lkDF_is_open, lnDF, lkKF_called, lkKF_then, lkKF_takes, lkKF_hands, lkKF_is_ranked, lkKF_rests, lkKF_begun, lkKF_pool, lkKF_rule, lkKF_goals, lkKF_moved, lkKF_can, lkKF_moves, lkKF_clock, lkKF_change, lkKF_first, lkKF_served, lkKF_rests_at, lkKF_chosen, lkKF_is_open, lnKF, L_move_2, L_where_1, List.lookup_cons, beq_self_eq_true, nE_Place_Passing, nE_Place_DeskPlace, nE_Place_Visitor, nE_Place_Floor, nE_Passing_Place, nE_Passing_DeskPlace, nE_Passing_Visitor, nE_Passing_Floor, nE_DeskPlace_Place, nE_DeskPlace_Passing, nE_DeskPlace_Visitor, nE_DeskPlace_Floor, nE_Visitor_Place, nE_Visitor_Passing, nE_Visitor_DeskPlace, nE_Visitor_Floor, nE_Floor_Place, nE_Floor_Passing, nE_Floor_DeskPlace, nE_Floor_Visitor, gf, gfA, o, o1, u1, r1, ux, wh, ws, od, orr, ou, d6, j1, j2, dz, pr, eb, e1, -gEq_pair, -gEq_ints, -gEq_int, -gEq_str, -gEq_bl, -itL]
  · show m1.own.set 1 _ = _
    rw [own1, O]
    show _ = [(t.qo, _), (t.qr, Cell.lst ((m1.rows t.dn).map I)), _, _, _]
    rw [rd1]
    rfl
  · intro y hy
    obtain ⟨hy, ny⟩ := sub y hy
    rw [F.K.o3.k y hy]
    obtain ⟨j, w, rfl, hj, _⟩ := F.K.rin y hy
    show _ = some (D.v (.int (match m1.vis[((j : Nat) : Int).toNat]? with | some v => v.grade | none => 0)))
    unfold grd
    rw [Int.toNat_natCast, visn j (fun q => ny (by rw [q]))]
  · intro y hy
    obtain ⟨hy, ny⟩ := sub y hy
    rw [F.K.o3.s y hy]
    obtain ⟨j, w, rfl, hj, _⟩ := F.K.rin y hy
    show _ = some (D.v (.int (match m1.vis[((j : Nat) : Int).toNat]? with | some v => v.since | none => 0)))
    unfold snc
    rw [Int.toNat_natCast, visn j (fun q => ny (by rw [q]))]
  · intro y hy
    obtain ⟨hy, ny⟩ := sub y hy
    rw [F.K.o3.u y hy]
    obtain ⟨j, w, rfl, hj, _⟩ := F.K.rin y hy
    show _ = some (tilD (match m1.vis[((j : Nat) : Int).toNat]? with | some v => v.til | none => none))
    unfold tlv
    rw [Int.toNat_natCast, visn j (fun q => ny (by rw [q]))]
  · intro y hy
    obtain ⟨hy, ny⟩ := sub y hy
    show ∃ (k : Nat) (v : Vz), _ ∧ m1.vis[k]? = some v ∧ _
    obtain ⟨j, w, rfl, hj, hw⟩ := F.K.rin y hy
    exact ⟨j, w, rfl, by rw [visn j (fun q => ny (by rw [q]))]; exact hj, hw⟩
  · show (m1.rows t.dn).length ≤ 900
    rw [rd1]
    exact Nat.le_trans List.length_erase_le F.K.len
  · intro p hp'
    have D' := F.dr p hp'
    refine ⟨by show p.1 ∈ m1.ns; rw [ns1]; exact D'.hn, by show p.1 ∈ m1.ks; rw [ks1]; exact D'.hk, by show m1.kz p.1 = _; rw [kz1]; exact D'.kz, by show m1.rows p.1 = []; rw [rows1, if_neg D'.n2, if_neg D'.n1]; exact D'.row, by show m1.plc p.1 = _; rw [plc1]; exact D'.pl, D'.n1, D'.n2⟩
  · show _ = m1.vis.length
    rw [vis1, List.length_set, F.lk]
  · show _ = m1.vis.length
    rw [vis1, List.length_set, F.ls]
  · show _ = m1.vis.length
    rw [vis1, List.length_set, F.lu]
  · show (m1.rows t.dn).length + (m1.rows t.en).length ≤ m1.vis.length
    rw [rd1, rows1, if_pos rfl, vis1, List.length_set, List.length_append, List.length_erase_of_mem hx]
    have := F.lr
    have := List.length_pos_of_mem hx
    show _ - 1 + (_ + 1) ≤ _
    omega
  · show m1.vis.length ≤ 60
    rw [vis1, List.length_set]
    exact F.lv
theorem FInv.desk {t : Kt} {doors : List (Str × Int)} {L : Lay} {m : Fm} {hd : Int} {ts : List Int} {c : Int} {RK SL UL : List D} {S : List Cell} (F : FInv t doors L m hd ts c RK SL UL S) {hd' : Int} {ts' : List Int} (ht : 1 ≤ ts'.length ∧ ts'.length ≤ 1000) {S1 : List Cell} (h1 : FloorAt L ((m.setOwn 0 t.qo (.dct (ownD t hd' ts' c))).setPl t.dn (plcS (.desk t.dn hd' ts' t.kk t.rs t.en) c)) S1) :
    FInv t doors L ((m.setOwn 0 t.qo (.dct (ownD t hd' ts' c))).setPl t.dn (plcS (.desk t.dn hd' ts' t.kk t.rs t.en) c)) hd' ts' c RK SL UL S1 := by
  refine ⟨⟨h1, ?_, F.K.o3, F.K.hn, if_pos rfl, F.K.rin, F.K.nd, F.K.len, ht, F.K.hr⟩, F.hen, F.ne, fun p hp => ?_, F.lk, F.ls, F.lu, F.lr, F.lv⟩
  · show m.own.set 0 _ = _
    rw [F.K.own]
    rfl
  · have D' := F.dr p hp
    exact ⟨D'.hn, D'.hk, D'.kz, D'.row, by show (if p.1 = t.dn then _ else m.plc p.1) = _; rw [if_neg D'.n1]; exact D'.pl, D'.n1, D'.n2⟩
def chH (y : Int) : Int := 1 + (y.fdiv 2).fmod 4
def chT (y : Int) : List Int := if (y.fdiv 30).fmod 2 = 0 then [1 + (y.fdiv 2).fmod 5] else [1 + (y.fdiv 2).fmod 5, 1 + (y.fdiv 10).fmod 3]
theorem changed_ok {t : Kt} {doors : List (Str × Int)} {L : Lay} {m : Fm} {hd : Int} {ts : List Int} {c : Int} {RK SL UL : List D} {S : List Cell} (F : FInv t doors L m hd ts c RK SL UL S) (y : Int) : ∃ m' hd' ts' S', g_law_changed [.loc L.f, .loc t.qo, .v (.int y)] S = .ok (.v (.bl true)) S' ∧ FInv t doors L m' hd' ts' c RK SL UL S' := by
  have d2 : divOk 2 := divOk_s (by decide) (by decide)
  have d10 : divOk 10 := divOk_s (by decide) (by decide)
  have d30 : divOk 30 := divOk_s (by decide) (by decide)
  have O := F.K.own
  have gf := F.K.fa.gf
  have o := F.K.ow.o
  have od := ow_desk t hd ts c
  have ol := ow_len t hd ts c
  have d1 := dk1 t hd ts
  have l6 : (6 : Nat) < 1000000 := by decide
  unfold deskD rowT at od
  have c1 : cutL (Sta.desk t.dn hd ts t.kk t.rs t.en).row none (some 2) = [sD (Str.ofString "desk"), sD t.dn] := rfl
  have c2 : cutL (Sta.desk t.dn hd ts t.kk t.rs t.en).row (some 3) none = [.tup (ts.map I), .v (.bl t.kk), .tup (t.rs.map pD), sD t.en] := rfl
  have c3 : cutL (Sta.desk t.dn hd ts t.kk t.rs t.en).row none (some 3) = [sD (Str.ofString "desk"), sD t.dn, .v (.int hd)] := rfl
  have c4 : cutL (Sta.desk t.dn hd ts t.kk t.rs t.en).row (some 4) none = [.v (.bl t.kk), .tup (t.rs.map pD), sD t.en] := rfl
  have a2 : ∀ a b e : D, atI [a, b, e] 2 = some e := fun _ _ _ => rfl
  by_cases q : y.fmod 2 = 0
  · have hA := F.K.fa.setOwn (i := 0) (a := t.qo) (c0 := .dct (ownD t hd ts c)) (by rw [O]; rfl) (.dct (ownD t (chH y) ts c))
    obtain ⟨S1, e1, h1⟩ := fchg_hands hA (n := t.dn) F.K.hn (hd := hd) (c := c) (ts := ts) (kk := t.kk) (rs := t.rs) (t := t.en) F.K.pl (chH y)
    refine ⟨_, _, _, S1, ?_, F.desk F.K.ht h1⟩
    have gfA := hA.gf
    have opd : putD (ownD t hd ts c) (.inr "desk") (.tup [sD (Str.ofString "desk"), sD t.dn, .v (.int (chH y)), .tup (ts.map I), .v (.bl t.kk), .tup (t.rs.map pD), sD t.en]) = ownD t (chH y) ts c := rfl
    have eh : 1 + (y.fdiv 2).fmod 4 = chH y := rfl
    generalize chH y = hh at *
    generalize t.rs.map pD = RI at *
    generalize ts.map I = TI at *
    generalize (Sta.desk t.dn hd ts t.kk t.rs t.en).row = dr at *
    generalize ownD t hh ts c = ow2 at *
    generalize ownD t hd ts c = ow at *
    simp_arith [g_law_changed, den_law_changed, gCat3, dSlD, dFldA, dSetFA, dMethL, dMeth, insA, insD, dRGet, rdcD, dctD, keyD, dSt, dDAug, rol, spl, izl, gsl, Sdl, vcell, tilD, dFldAug, dRGet, rdcD, dctD, keyD, dIdx, dPut, dAugL, dDAug, dDPut, dSt, lkV1, lkV2, lkV3, lkV4, lkV5, ptV1, ptV2, ptV3, lnV, lkF1, lkF2, lkF3, lkF4, lkF5, lkFa, lkFb, lkFc, lkFd, lkFe, lkFf, lkFg, lkFh, lkFi, lkFj, lkFk, lkFl, lkFm, lkFn, lkFo, lkFp, mC_Place_called, mC_Passing_called, mC_DeskPlace_called, mC_Visitor_called, mC_Passing_then, mC_DeskPlace_then, mC_DeskPlace_hands, mC_DeskPlace_takes, mC_DeskPlace_is_ranked, mC_DeskPlace_rests, mC_DeskPlace_begun, mC_Visitor_since, mC_Visitor_until, mC_Visitor_things, mC_Visitor_grade, mC_Floor_guests, mC_Floor_rows, mC_Floor_spots, mC_Floor_ranks, mC_Floor_pools, lkXF_called, lkXF_then, lkXF_takes, lkXF_hands, lkXF_is_ranked, lkXF_rests, lkXF_begun, lkXF_pool, lkXF_rule, lkXF_goals, lkXF_moved, lkXF_can, lkXF_moves, lkXF_clock, lkXF_change, lkXF_first, lkXF_served, lkXF_rests_at, lkXF_chosen, lkXF_is_open, lnXF, lkDF_called, lkDF_then, lkDF_takes, lkDF_hands, lkDF_is_ranked, lkDF_rests, lkDF_begun, lkDF_pool, lkDF_rule, lkDF_goals, lkDF_moved, lkDF_can, lkDF_moves, lkDF_clock, lkDF_change, lkDF_first, lkDF_served, lkDF_rests_at, lkDF_chosen, lkDF_is_open, lnDF, lkKF_called, lkKF_then, lkKF_takes, lkKF_hands, lkKF_is_ranked, lkKF_rests, lkKF_begun, lkKF_pool, lkKF_rule, lkKF_goals, lkKF_moved, lkKF_can, lkKF_moves, lkKF_clock, lkKF_change, lkKF_first, lkKF_served, lkKF_rests_at, lkKF_chosen, lkKF_is_open, lnKF, L_change_1_F, List.lookup_cons, beq_self_eq_true, nE_Place_Passing, nE_Place_DeskPlace, nE_Place_Visitor, nE_Place_Floor, nE_Passing_Place, nE_Passing_DeskPlace, nE_Passing_Visitor, nE_Passing_Floor, nE_DeskPlace_Place, nE_DeskPlace_Passing, nE_DeskPlace_Visitor, nE_DeskPlace_Floor, nE_Visitor_Place, nE_Visitor_Passing, nE_Visitor_DeskPlace, nE_Visitor_Floor, nE_Floor_Place, nE_Floor_Passing, nE_Floor_DeskPlace, nE_Floor_Visitor, gf, gfA, o, od, ol, d1, d2, c1, c2, a2, eh, q, l6, opd, e1]
  · obtain ⟨us, hus⟩ : ∃ us, chT y = us := ⟨_, rfl⟩
    have hA := F.K.fa.setOwn (i := 0) (a := t.qo) (c0 := .dct (ownD t hd ts c)) (by rw [O]; rfl) (.dct (ownD t hd us c))
    obtain ⟨S1, e1, h1⟩ := fchg_takes hA (n := t.dn) F.K.hn (hd := hd) (c := c) (ts := ts) (kk := t.kk) (rs := t.rs) (t := t.en) F.K.pl us
    have hl : 1 ≤ us.length ∧ us.length ≤ 1000 := by
      rw [← hus]
      unfold chT
      split <;> exact ⟨by simp, by simp⟩
    refine ⟨_, _, _, S1, ?_, F.desk hl h1⟩
    have gfA := hA.gf
    have opd : putD (ownD t hd ts c) (.inr "desk") (.tup [sD (Str.ofString "desk"), sD t.dn, .v (.int hd), .tup (us.map I), .v (.bl t.kk), .tup (t.rs.map pD), sD t.en]) = ownD t hd us c := rfl
    have b2 := fmod_bd (c := y.fdiv 30) (m := 2) (by decide)
    have cu : cutL [D.v (.int (1 + (y.fdiv 2).fmod 5)), .v (.int (1 + (y.fdiv 10).fmod 3))] none (some (1 + (y.fdiv 30).fmod 2)) = us.map I := by
      rw [← hus]
      unfold chT
      have : (y.fdiv 30).fmod 2 = 0 ∨ (y.fdiv 30).fmod 2 = 1 := by omega
      rcases this with e | e
      · rw [if_pos e, e]
        rfl
      · rw [if_neg (by omega), e]
        rfl
    generalize us.map I = UI at *
    generalize t.rs.map pD = RI at *
    generalize (Sta.desk t.dn hd ts t.kk t.rs t.en).row = dr at *
    generalize ownD t hd us c = ow2 at *
    generalize ownD t hd ts c = ow at *
    simp_arith [g_law_changed, den_law_changed, gCat3, dSlD, dFldA, dSetFA, dMethL, dMeth, insA, insD, dRGet, rdcD, dctD, keyD, dSt, dDAug, rol, spl, izl, gsl, Sdl, vcell, tilD, dFldAug, dRGet, rdcD, dctD, keyD, dIdx, dPut, dAugL, dDAug, dDPut, dSt, lkV1, lkV2, lkV3, lkV4, lkV5, ptV1, ptV2, ptV3, lnV, lkF1, lkF2, lkF3, lkF4, lkF5, lkFa, lkFb, lkFc, lkFd, lkFe, lkFf, lkFg, lkFh, lkFi, lkFj, lkFk, lkFl, lkFm, lkFn, lkFo, lkFp, mC_Place_called, mC_Passing_called, mC_DeskPlace_called, mC_Visitor_called, mC_Passing_then, mC_DeskPlace_then, mC_DeskPlace_hands, mC_DeskPlace_takes, mC_DeskPlace_is_ranked, mC_DeskPlace_rests, mC_DeskPlace_begun, mC_Visitor_since, mC_Visitor_until, mC_Visitor_things, mC_Visitor_grade, mC_Floor_guests, mC_Floor_rows, mC_Floor_spots, mC_Floor_ranks, mC_Floor_pools, lkXF_called, lkXF_then, lkXF_takes, lkXF_hands, lkXF_is_ranked, lkXF_rests, lkXF_begun, lkXF_pool, lkXF_rule, lkXF_goals, lkXF_moved, lkXF_can, lkXF_moves, lkXF_clock, lkXF_change, lkXF_first, lkXF_served, lkXF_rests_at, lkXF_chosen, lkXF_is_open, lnXF, lkDF_called, lkDF_then, lkDF_takes, lkDF_hands, lkDF_is_ranked, lkDF_rests, lkDF_begun, lkDF_pool, lkDF_rule, lkDF_goals, lkDF_moved, lkDF_can, lkDF_moves, lkDF_clock, lkDF_change, lkDF_first, lkDF_served, lkDF_rests_at, lkDF_chosen, lkDF_is_open, lnDF, lkKF_called, lkKF_then, lkKF_takes, lkKF_hands, lkKF_is_ranked, lkKF_rests, lkKF_begun, lkKF_pool, lkKF_rule, lkKF_goals, lkKF_moved, lkKF_can, lkKF_moves, lkKF_clock, lkKF_change, lkKF_first, lkKF_served, lkKF_rests_at, lkKF_chosen, lkKF_is_open, lnKF, L_change_1_F, List.lookup_cons, beq_self_eq_true, nE_Place_Passing, nE_Place_DeskPlace, nE_Place_Visitor, nE_Place_Floor, nE_Passing_Place, nE_Passing_DeskPlace, nE_Passing_Visitor, nE_Passing_Floor, nE_DeskPlace_Place, nE_DeskPlace_Passing, nE_DeskPlace_Visitor, nE_DeskPlace_Floor, nE_Visitor_Place, nE_Visitor_Passing, nE_Visitor_DeskPlace, nE_Visitor_Floor, nE_Floor_Place, nE_Floor_Passing, nE_Floor_DeskPlace, nE_Floor_Visitor, gf, gfA, o, od, ol, d1, d2, d10, d30, c3, c4, a2, q, l6, cu, opd, e1]
theorem FloorAt.ownTo {L : Lay} {m : Fm} {S : List Cell} (h : FloorAt L m S) (O : List (Nat × Cell)) (hO : ∀ (i a : Nat) (c : Cell), O[i]? = some (a, c) → ∃ j : Nat, m.own[j]? = some (a, c)) (hI : ∀ (i j a : Nat) (c c' : Cell), O[i]? = some (a, c) → O[j]? = some (a, c') → i = j) : FloorAt L { m with own := O } S := by
  have key : ∀ (i a : Nat) (c : Cell), O[i]? = some (a, c) → ∃ j, cells L m (.own j) = some (a, c) := hO
  have no : ∀ (t : Tag) (i a : Nat) (c c' : Cell), (∀ j, t ≠ .own j) → O[i]? = some (a, c) → cells L m t = some (a, c') → False := fun t i a c c' ht e e' => by
    obtain ⟨j, e2⟩ := key i a c e
    exact ht j (h.inj t (.own j) a c' c e' e2)
  have same : ∀ t : Tag, (∀ i, t ≠ .own i) → cells L { m with own := O } t = cells L m t := fun t h => by
    cases t <;> first | rfl | exact absurd rfl (h _)
  refine ⟨fun t a c e => ?_, fun t t' a c c' e e' => ?_⟩
  · by_cases q : ∃ i, t = .own i
    · obtain ⟨i, rfl⟩ := q
      obtain ⟨j, e2⟩ := key i a c e
      exact h.at_ _ a c e2
    · have q := not_exists.mp q
      rw [same t q] at e
      exact h.at_ _ a c e
  · by_cases q : ∃ i, t = .own i
    · obtain ⟨i, rfl⟩ := q
      by_cases q' : ∃ i, t' = .own i
      · obtain ⟨j, rfl⟩ := q'
        rw [hI i j a c c' e e']
      · have q' := not_exists.mp q'
        rw [same t' q'] at e'
        exact absurd (no t' i a c c' q' e e') id
    · have q := not_exists.mp q
      rw [same t q] at e
      by_cases q' : ∃ i, t' = .own i
      · obtain ⟨j, rfl⟩ := q'
        exact absurd (no t j a c' c q e' e) id
      · have q' := not_exists.mp q'
        rw [same t' q'] at e'
        exact h.inj _ _ a c c' e e'
theorem addSt_in {m : Fm} {s : Sta} : (∀ n, n ∈ (m.addSt s).ns → n ∈ m.ns ∨ n = s.name) ∧ (∀ n, n ∈ (m.addSt s).ks → n ∈ m.ks ∨ n = s.name) ∧ (∀ n, n ∈ (m.addSt s).ps → n ∈ m.ps ∨ n = s.name) ∧ (m.addSt s).ns.length ≤ m.ns.length + 1 ∧ (m.addSt s).ps.length ≤ m.ps.length + 1 ∧ (m.addSt s).ks.length ≤ m.ks.length + 1 := by
  have A : ∀ (l : List Str) (x n : Str), n ∈ l ++ [x] → n ∈ l ∨ n = x := fun l x n h => by simpa using h
  by_cases hp : s.isPool = true
  · cases s <;> first | (cases hp; done) | skip
    next n z => exact ⟨fun _ h => .inl h, fun _ h => .inl h, fun x h => A _ _ _ h, Nat.le_succ _, by show (m.ps ++ [n]).length ≤ _; simp, Nat.le_succ _⟩
  · have ea : m.addSt s = if s.isDoor then (m.addPl s.name (plcS s 0)).addK s.name (rnkS s) else m.addPl s.name (plcS s 0) := by
      unfold Fm.addSt
      cases s <;> first | (exact absurd rfl hp) | rfl
    rw [ea]
    split
    · exact ⟨fun x h => A _ _ _ h, fun x h => A _ _ _ h, fun _ h => .inl h, by show (m.ns ++ [s.name]).length ≤ _; simp, Nat.le_succ _, by show (m.ks ++ [s.name]).length ≤ _; simp⟩
    · exact ⟨fun x h => A _ _ _ h, fun _ h => .inl h, fun _ h => .inl h, by show (m.ns ++ [s.name]).length ≤ _; simp, Nat.le_succ _, Nat.le_succ _⟩
theorem good_of : ∀ (hall : List Sta) (m : Fm), (∀ s ∈ hall, hereS s = true) → (hall.map Sta.name).Nodup → (∀ s ∈ hall, s.name ∉ m.ns ∧ s.name ∉ m.ks ∧ s.name ∉ m.ps) → m.ns.length + hall.length ≤ 999 → m.ps.length + hall.length ≤ 999 → m.ks.length + hall.length ≤ 999 → Good m hall
  | [], _, _, _, _, _, _, _ => trivial
  | s :: r, m, hh, nd, hn, l1, l2, l3 => by
    rw [List.map_cons] at nd
    obtain ⟨n1, n2⟩ := List.nodup_cons.mp nd
    obtain ⟨a1, a2, a3, a4, a5, a6⟩ := addSt_in (m := m) (s := s)
    have q := hn s List.mem_cons_self
    simp only [List.length_cons] at l1 l2 l3
    refine ⟨⟨hh s List.mem_cons_self, q.1, q.2.1, q.2.2, by omega, by omega, by omega⟩, good_of r (m.addSt s) (fun x hx => hh x (List.mem_cons_of_mem _ hx)) n2 (fun x hx => ?_) (by omega) (by omega) (by omega)⟩
    have w := hn x (List.mem_cons_of_mem _ hx)
    have ne : x.name ≠ s.name := fun e => n1 (by rw [← e]; exact List.mem_map_of_mem hx)
    exact ⟨fun z => (a1 _ z).elim w.1 ne, fun z => (a2 _ z).elim w.2.1 ne, fun z => (a3 _ z).elim w.2.2 ne⟩
structure Adds (m m' : Fm) (l : List Str) : Prop where
  vis : m'.vis = m.vis
  own : m'.own = m.own
  rows : (∀ n, m.rows n = []) → ∀ n, m'.rows n = []
  ns : ∀ n, n ∈ m.ns → n ∉ l → n ∈ m'.ns ∧ m'.plc n = m.plc n
  ks : ∀ n, n ∈ m.ks → n ∉ l → n ∈ m'.ks ∧ m'.kz n = m.kz n
theorem add_one (m : Fm) (s : Sta) : Adds m (m.addSt s) [s.name] := by
  by_cases hp : s.isPool = true
  · cases s <;> first | (cases hp; done) | skip
    exact ⟨rfl, rfl, fun h => h, fun n h _ => ⟨h, rfl⟩, fun n h _ => ⟨h, rfl⟩⟩
  · have ea : m.addSt s = if s.isDoor then (m.addPl s.name (plcS s 0)).addK s.name (rnkS s) else m.addPl s.name (plcS s 0) := by
      unfold Fm.addSt
      cases s <;> first | (exact absurd rfl hp) | rfl
    have rr : (∀ n, m.rows n = []) → ∀ n, (if n = s.name then [] else m.rows n) = [] := fun h n => by rw [h]; split <;> rfl
    have kk : ∀ n, n ∈ m.ns → n ∉ [s.name] → n ∈ m.ns ++ [s.name] ∧ (if n = s.name then plcS s 0 else m.plc n) = m.plc n := fun n h w => ⟨List.mem_append_left _ h, if_neg (by simpa using w)⟩
    have kz : ∀ n, n ∈ m.ks → n ∉ [s.name] → n ∈ m.ks ++ [s.name] ∧ (if n = s.name then rnkS s else m.kz n) = m.kz n := fun n h w => ⟨List.mem_append_left _ h, if_neg (by simpa using w)⟩
    rw [ea]
    split
    · exact ⟨rfl, rfl, rr, kk, kz⟩
    · exact ⟨rfl, rfl, rr, kk, fun n h _ => ⟨h, rfl⟩⟩
theorem adds_all : ∀ (hall : List Sta) (m : Fm), Adds m (hall.foldl Fm.addSt m) (hall.map Sta.name)
  | [], m => ⟨rfl, rfl, fun h => h, fun n h _ => ⟨h, rfl⟩, fun n h _ => ⟨h, rfl⟩⟩
  | s :: r, m => by
    have a := add_one m s
    have b := adds_all r (m.addSt s)
    rw [List.foldl_cons, List.map_cons]
    refine ⟨b.vis.trans a.vis, b.own.trans a.own, fun h => b.rows (a.rows h), fun n h w => ?_, fun n h w => ?_⟩
    · have x := a.ns n h (fun z => w (by rw [List.mem_singleton.mp z]; exact List.mem_cons_self))
      have y := b.ns n x.1 (fun z => w (List.mem_cons_of_mem _ z))
      exact ⟨y.1, y.2.trans x.2⟩
    · have x := a.ks n h (fun z => w (by rw [List.mem_singleton.mp z]; exact List.mem_cons_self))
      have y := b.ks n x.1 (fun z => w (List.mem_cons_of_mem _ z))
      exact ⟨y.1, y.2.trans x.2⟩
theorem adds_has : ∀ (hall : List Sta) (m : Fm), (hall.map Sta.name).Nodup → ∀ s ∈ hall, s.isPool = false → (s.name ∈ (hall.foldl Fm.addSt m).ns ∧ (hall.foldl Fm.addSt m).plc s.name = plcS s 0) ∧ (s.isDoor = true → s.name ∈ (hall.foldl Fm.addSt m).ks ∧ (hall.foldl Fm.addSt m).kz s.name = rnkS s)
  | [], _, _, _, h, _ => absurd h List.not_mem_nil
  | x :: r, m, nd, s, h, hp => by
    rw [List.map_cons] at nd
    obtain ⟨n1, n2⟩ := List.nodup_cons.mp nd
    rw [List.foldl_cons]
    rcases List.mem_cons.mp h with rfl | h
    · have b := adds_all r (m.addSt s)
      have ea : m.addSt s = if s.isDoor then (m.addPl s.name (plcS s 0)).addK s.name (rnkS s) else m.addPl s.name (plcS s 0) := by
        unfold Fm.addSt
        cases s <;> first | (cases hp; done) | rfl
      have A : s.name ∈ (m.addSt s).ns ∧ (m.addSt s).plc s.name = plcS s 0 := by
        rw [ea]
        split
        · exact ⟨by show s.name ∈ m.ns ++ [s.name]; simp, if_pos rfl⟩
        · exact ⟨by show s.name ∈ m.ns ++ [s.name]; simp, if_pos rfl⟩
      have b1 := b.ns s.name A.1 n1
      refine ⟨⟨b1.1, b1.2.trans A.2⟩, fun hd => ?_⟩
      have C : s.name ∈ (m.addSt s).ks ∧ (m.addSt s).kz s.name = rnkS s := by
        rw [ea, if_pos hd]
        exact ⟨by show s.name ∈ m.ks ++ [s.name]; simp, if_pos rfl⟩
      have b2 := b.ks s.name C.1 n1
      exact ⟨b2.1, b2.2.trans C.2⟩
    · exact adds_has r _ n2 s h hp
theorem seq_nx' {a b : M Fl} {c c1 : Stt} {r : R Fl} (h : a c = .ok .nx c1) (k : b c1 = r) : dSeq a b c = r := by
  unfold dSeq M.bind
  rw [h]
  exact k
theorem seq_st {a b : M Fl} {c c1 : Stt} {Q : Stt → Prop} (h : a c = .ok .nx c1) (k : ∃ c2, b c1 = .ok .nx c2 ∧ Q c2) : ∃ c2, dSeq a b c = .ok .nx c2 ∧ Q c2 := by
  obtain ⟨c2, e, q⟩ := k
  exact ⟨c2, seq_nx' h e, q⟩
theorem seq_ex {a b : M Fl} {c : Stt} {P Q : Stt → Prop} (h : ∃ c1, a c = .ok .nx c1 ∧ P c1) (k : ∀ c1, P c1 → ∃ c2, b c1 = .ok .nx c2 ∧ Q c2) : ∃ c2, dSeq a b c = .ok .nx c2 ∧ Q c2 := by
  obtain ⟨c1, e1, p⟩ := h
  obtain ⟨c2, e2, q⟩ := k c1 p
  exact ⟨c2, seq_nx' e1 e2, q⟩
theorem if_and {t1 t2 : M Bool} {x y : M Fl} {c : Stt} {P : Stt → Prop} (b1 b2 : Bool) (h1 : t1 c = .ok b1 c) (h2 : t2 c = .ok b2 c) (hx : b1 = true → b2 = true → ∃ c1, x c = .ok .nx c1 ∧ P c1) (hy : (b1 && b2) = false → ∃ c1, y c = .ok .nx c1 ∧ P c1) : ∃ c1, dIfS (dAnd t1 t2) x y c = .ok .nx c1 ∧ P c1 := by
  unfold dIfS dAnd M.bind
  rw [h1]
  cases b1 with
  | true =>
    simp only [if_true, h2]
    cases b2 with
    | true => simpa using hx rfl rfl
    | false => simpa using hy rfl
  | false => simpa [M.pure] using hy rfl
theorem nd_turn {α : Type} (l : List α) (k : Nat) (f : α → Str) (h : (l.map f).Nodup) : ((l.drop k ++ l.take k).map f).Nodup := by
  have e : l.map f = (l.take k).map f ++ (l.drop k).map f := by rw [← List.map_append, List.take_append_drop]
  rw [e] at h
  rw [List.map_append]
  exact (List.perm_append_comm).nodup_iff.mp h
theorem mem_turn {α : Type} (l : List α) (k : Nat) (x : α) : x ∈ l.drop k ++ l.take k ↔ x ∈ l := by
  have e : x ∈ l ↔ x ∈ l.take k ++ l.drop k := by rw [List.take_append_drop]
  rw [e, List.mem_append, List.mem_append, or_comm]
theorem cut_turn (l : List Sta) (k : Int) (h0 : 0 ≤ k) (h : k ≤ l.length) : cutL (l.map rowT) (some k) none ++ cutL (l.map rowT) none (some k) = (l.drop k.toNat ++ l.take k.toNat).map rowT := by
  rw [cutL_map, cutL_map, ← List.map_append, cutL_from l k h0 h, cutL_to l k h0 h]
theorem pk_nms {c : Int} {i : Nat} (h : i < 22) : pk (nms c) (i : Nat) = nm c i := by
  unfold pk nms
  rw [Int.toNat_natCast, List.getD_eq_getElem?_getD, List.getElem?_map, List.getElem?_range h]
  rfl
theorem FInv.push {t : Kt} {doors : List (Str × Int)} {L : Lay} {m : Fm} {hd : Int} {ts : List Int} {c : Int} {RK SL UL : List D} {S : List Cell} (F : FInv t doors L m hd ts c RK SL UL S) (U : List Cell) : FInv t doors L m hd ts c RK SL UL (S ++ U) :=
  ⟨F.K.push U, F.hen, F.ne, F.dr, F.lk, F.ls, F.lu, F.lr, F.lv⟩
/-- what stands behind each deed -/
def Beh (ns : List Int) (t : Kt) (p0 p1 : Str × Int) (L : Lay) (x1 x2 x3 x4 x6 x7 : Slot) (c' : Stt) : Prop :=
  ∃ (m : Fm) (hd : Int) (ts : List Int) (c : Int) (RK SL UL : List D) (S : List Cell) (z : Int) (x11 x12 x13 x14 x15 : Slot), c' = ⟨[.d (scr ns), x1, x2, x3, x4, .own (.lst [rowT (.doorA p0.1 p0.2 [0] t.dn), rowT (.doorA p1.1 p1.2 [0] t.dn)]), x6, x7, .d (.loc L.f), .d (.loc t.qo), .d (.v (.int z)), x11, x12, x13, x14, x15, .no], S⟩ ∧ FInv t [p0, p1] L m hd ts c RK SL UL S
def BehG (ns : List Int) (t : Kt) (p0 p1 : Str × Int) (L : Lay) (x1 x2 x3 x4 x6 x7 : Slot) (c' : Stt) : Prop :=
  ∃ (m : Fm) (hd : Int) (ts : List Int) (c : Int) (RK SL UL : List D) (S : List Cell) (z : Int) (x11 x12 x13 x14 : Slot), c' = ⟨[.d (scr ns), x1, x2, x3, x4, .own (.lst [rowT (.doorA p0.1 p0.2 [0] t.dn), rowT (.doorA p1.1 p1.2 [0] t.dn)]), x6, x7, .d (.loc L.f), .d (.loc t.qo), .d (.v (.int z)), x11, x12, x13, x14, .d (.v (.bl true)), .no], S⟩ ∧ FInv t [p0, p1] L m hd ts c RK SL UL S
theorem turn_ok {ns : List Int} {p0 p1 : Str × Int} {x1 x2 x3 x4 x6 x7 : Slot} {t : Kt} {L : Lay} {m : Fm} {hd : Int} {ts : List Int} {c : Int} {RK SL UL : List D} {S : List Cell} (F : FInv t [p0, p1] L m hd ts c RK SL UL S) (z k : Int) (hk : 0 ≤ k) (hk2 : k < 100) (x12 x13 x14 x15 : Slot) :
    ∃ c2, flaw1b ⟨[.d (scr ns), x1, x2, x3, x4, .own (.lst [rowT (.doorA p0.1 p0.2 [0] t.dn), rowT (.doorA p1.1 p1.2 [0] t.dn)]), x6, x7, .d (.loc L.f), .d (.loc t.qo), .d (.v (.int z)), .d (.v (.int k)), x12, x13, x14, x15, .no], S⟩ = .ok .nx c2 ∧ Beh ns t p0 p1 L x1 x2 x3 x4 x6 x7 c2 := by
  have d2 : divOk 2 := divOk_s (by decide) (by decide)
  have d3 : divOk 3 := divOk_s (by decide) (by decide)
  have d8 : divOk 8 := divOk_s (by decide) (by decide)
  have d40 : divOk 40 := divOk_s (by decide) (by decide)
  have b40 := fmod_bd (c := k) (m := 40) (by decide)
  obtain ⟨q, hM⟩ : ∃ q, mixed (ns.getD (2 + k.fmod 40).toNat 0) (10 + k) = q := ⟨_, rfl⟩
  have e1 := gc ns (2 + k.fmod 40) S (by omega)
  have e2 := gx (ns.getD (2 + k.fmod 40).toNat 0) (10 + k) S (by omega)
  rw [hM] at e2
  obtain ⟨P, hP⟩ : ∃ P, (m.rows t.dn).filter (fun x => lcanB t.kk hd t.rs (m.rows t.dn) (grd m) (tlv m) x z) = P := ⟨_, rfl⟩
  have pr : ∀ x ∈ P, x ∈ m.rows t.dn := fun x hx => by rw [← hP] at hx; exact (List.mem_filter.mp hx).1
  have pz : P.length ≤ 900 := by rw [← hP]; exact Nat.le_trans (List.length_filter_le _ _) F.K.len
  unfold flaw1b
  refine seq_st (c1 := ⟨[.d (scr ns), x1, x2, x3, x4, .own (.lst [rowT (.doorA p0.1 p0.2 [0] t.dn), rowT (.doorA p1.1 p1.2 [0] t.dn)]), x6, x7, .d (.loc L.f), .d (.loc t.qo), .d (.v (.int z)), .d (.v (.int k)), .d (.v (.int q)), x13, x14, x15, .no], S⟩) (by simp_arith [dRGet, rdcD, dctD, keyD, dIdx, dPut, dAugL, dDAug, dDPut, dSt, d40, e1, e2]) ?_
  refine seq_st (c1 := ⟨[.d (scr ns), x1, x2, x3, x4, .own (.lst [rowT (.doorA p0.1 p0.2 [0] t.dn), rowT (.doorA p1.1 p1.2 [0] t.dn)]), x6, x7, .d (.loc L.f), .d (.loc t.qo), .d (.v (.int z)), .d (.v (.int k)), .d (.v (.int q)), .d (.v (.int (q.fdiv 8))), x14, x15, .no], S⟩) (by simp_arith [dRGet, rdcD, dctD, keyD, dIdx, dPut, dAugL, dDAug, dDPut, dSt, d8]) ?_
  refine seq_st (c1 := ⟨[.d (scr ns), x1, x2, x3, x4, .own (.lst [rowT (.doorA p0.1 p0.2 [0] t.dn), rowT (.doorA p1.1 p1.2 [0] t.dn)]), x6, x7, .d (.loc L.f), .d (.loc t.qo), .d (.v (.int z)), .d (.v (.int k)), .d (.v (.int q)), .d (.v (.int (q.fdiv 8))), .own (.lst (P.map I)), x15, .no], S⟩) ?_ ?_
  · have r := F.K.ow.r
    have o := F.K.ow.o
    have orr := ow_row t hd ts c
    have e3 := fun r0 => itLG_enc (dg := dName 16) (dt := claw1t) (de := claw1e) (vs := [16]) (r0 := r0) (w := [.d (scr ns), x1, x2, x3, x4, .own (.lst [rowT (.doorA p0.1 p0.2 [0] t.dn), rowT (.doorA p1.1 p1.2 [0] t.dn)]), x6, x7, .d (.loc L.f), .d (.loc t.qo), .d (.v (.int z)), .d (.v (.int k)), .d (.v (.int q)), .d (.v (.int (q.fdiv 8))), x14, x15, .no]) (S := S) (enc := I) (p := fun x => lcanB t.kk hd t.rs (m.rows t.dn) (grd m) (tlv m) x z) (f := I) r (m.rows t.dn) [] ⟨[.d (scr ns), x1, x2, x3, x4, .own (.lst [rowT (.doorA p0.1 p0.2 [0] t.dn), rowT (.doorA p1.1 p1.2 [0] t.dn)]), x6, x7, .d (.loc L.f), .d (.loc t.qo), .d (.v (.int z)), .d (.v (.int k)), .d (.v (.int q)), .d (.v (.int (q.fdiv 8))), x14, x15, .no], S⟩ rfl rfl (by have := F.K.len; simp; omega) (fun x hx => by
      have lc := lcan_ok F.K.ow F.K.o3 (Nat.le_trans F.K.len (by decide)) F.K.hr hx z
      refine ⟨⟨[.d (scr ns), x1, x2, x3, x4, .own (.lst [rowT (.doorA p0.1 p0.2 [0] t.dn), rowT (.doorA p1.1 p1.2 [0] t.dn)]), x6, x7, .d (.loc L.f), .d (.loc t.qo), .d (.v (.int z)), .d (.v (.int k)), .d (.v (.int q)), .d (.v (.int (q.fdiv 8))), x14, x15, .d (.v (.int x))], S⟩, rfl, ⟨[.d (scr ns), x1, x2, x3, x4, .own (.lst [rowT (.doorA p0.1 p0.2 [0] t.dn), rowT (.doorA p1.1 p1.2 [0] t.dn)]), x6, x7, .d (.loc L.f), .d (.loc t.qo), .d (.v (.int z)), .d (.v (.int k)), .d (.v (.int q)), .d (.v (.int (q.fdiv 8))), x14, x15, .d (.v (.int x))], S⟩, ?_, rfl, rfl, fun _ => ⟨⟨[.d (scr ns), x1, x2, x3, x4, .own (.lst [rowT (.doorA p0.1 p0.2 [0] t.dn), rowT (.doorA p1.1 p1.2 [0] t.dn)]), x6, x7, .d (.loc L.f), .d (.loc t.qo), .d (.v (.int z)), .d (.v (.int k)), .d (.v (.int q)), .d (.v (.int (q.fdiv 8))), x14, x15, .d (.v (.int x))], S⟩, rfl, rfl, rfl⟩⟩
      generalize lcanB t.kk hd t.rs (m.rows t.dn) (grd m) (tlv m) x z = lb at *
      cases lb <;> simp_arith [claw1t, dRGet, rdcD, dctD, keyD, dIdx, dPut, dAugL, dDAug, dDPut, dSt, lc])
    rw [hP] at e3
    simp only [List.nil_append] at e3
    generalize ownD t hd ts c = ow at *
    generalize P.map I = PI at *
    generalize (m.rows t.dn).map I = RI at *
    simp_arith [dLcA, dLcX, dRGet, rdcD, dctD, keyD, dIdx, dPut, dAugL, dDAug, dDPut, dSt, r, o, orr, e3, -gAny, -gEq_pair, -gEq_ints, -gEq_int, -itL]
  refine seq_st (c1 := ⟨[.d (scr ns), x1, x2, x3, x4, .own (.lst [rowT (.doorA p0.1 p0.2 [0] t.dn), rowT (.doorA p1.1 p1.2 [0] t.dn)]), x6, x7, .d (.loc L.f), .d (.loc t.qo), .d (.v (.int z)), .d (.v (.int k)), .d (.v (.int q)), .d (.v (.int (q.fdiv 8))), .own (.lst (P.map I)), .d (.v (.bl true)), .no], S⟩) (by simp_arith [dRGet, rdcD, dctD, keyD, dIdx, dPut, dAugL, dDAug, dDPut, dSt]) ?_
  refine seq_ex (P := BehG ns t p0 p1 L x1 x2 x3 x4 x6 x7) ?_ ?_
  · refine if_and (decide (q.fmod 8 < 3)) (decide (((RK.length : Nat) : Int) < 60)) (by simp_arith [dRGet, rdcD, dctD, keyD, dIdx, dPut, dAugL, dDAug, dDPut, dSt, d8]) ?_ ?_ ?_
    · have o := F.K.ow.o
      have kk := F.K.ow.k
      have ork := ow_ranks t hd ts c
      generalize ownD t hd ts c = ow at *
      simp_arith [dRGet, rdcD, dctD, keyD, dIdx, dPut, dAugL, dDAug, dDPut, dSt, o, kk, ork]
    · intro _ h2
      have h2 : ((RK.length : Nat) : Int) < 60 := of_decide_eq_true h2
      have bd := fmod_bd (c := q.fdiv 8) (m := 2) (by decide)
      obtain ⟨p, hp, ad⟩ : ∃ p ∈ [p0, p1], atI [rowT (.doorA p0.1 p0.2 [0] t.dn), rowT (.doorA p1.1 p1.2 [0] t.dn)] ((q.fdiv 8).fmod 2) = some (rowT (.doorA p.1 p.2 [0] t.dn)) := by
        have : (q.fdiv 8).fmod 2 = 0 ∨ (q.fdiv 8).fmod 2 = 1 := by omega
        rcases this with e | e
        · exact ⟨p0, by simp, by rw [e]; rfl⟩
        · exact ⟨p1, by simp, by rw [e]; rfl⟩
      obtain ⟨m', RK', SL', UL', S', e, F'⟩ := came_ok F (by rw [← F.lk]; omega) (d := p.1) (r := p.2) hp z
      refine ⟨⟨[.d (scr ns), x1, x2, x3, x4, .own (.lst [rowT (.doorA p0.1 p0.2 [0] t.dn), rowT (.doorA p1.1 p1.2 [0] t.dn)]), x6, x7, .d (.loc L.f), .d (.loc t.qo), .d (.v (.int z)), .d (.v (.int k)), .d (.v (.int q)), .d (.v (.int (q.fdiv 8))), .own (.lst (P.map I)), .d (.v (.bl true)), .no], S'⟩, ?_, m', _, _, _, RK', SL', UL', S', z, _, _, _, _, rfl, F'⟩
      generalize rowT (.doorA p0.1 p0.2 [0] t.dn) = R0 at *
      generalize rowT (.doorA p1.1 p1.2 [0] t.dn) = R1 at *
      generalize rowT (.doorA p.1 p.2 [0] t.dn) = RP at *
      simp_arith [dRGet, rdcD, dctD, keyD, dIdx, dPut, dAugL, dDAug, dDPut, dSt, d2, ad, e]
    · intro _
      refine if_and (decide (q.fmod 8 < 6)) (!P.isEmpty) (by simp_arith [dRGet, rdcD, dctD, keyD, dIdx, dPut, dAugL, dDAug, dDPut, dSt, d8]) ?_ ?_ ?_
      · have ne := fun c => gEq_nil (neg := true) (l := P.map I) (c := c) (pydA_map (fun _ => pyd_int) P)
        have ie : (P.map I).isEmpty = P.isEmpty := by cases P <;> rfl
        rw [ie] at ne
        generalize P.map I = PI at *
        simp_arith [dRGet, rdcD, dctD, keyD, dIdx, dPut, dAugL, dDAug, dDPut, dSt, ne, -gEq_pair, -gEq_ints, -gEq_int, -gEq_str, -gEq_bl, -itL]
      · intro _ h2
        have h2 : 1 ≤ P.length := by cases P with | nil => cases h2 | cons _ _ => simp
        have bd := fmod_bd (c := q.fdiv 8) (m := ((P.length : Nat) : Int)) (by omega)
        obtain ⟨x, hx, ex⟩ : ∃ x ∈ P, P.getD ((q.fdiv 8).fmod ((P.length : Nat) : Int)).toNat 0 = x := by
          have hl : ((q.fdiv 8).fmod ((P.length : Nat) : Int)).toNat < P.length := by omega
          refine ⟨P[((q.fdiv 8).fmod ((P.length : Nat) : Int)).toNat], List.getElem_mem hl, ?_⟩
          rw [List.getD_eq_getElem?_getD, List.getElem?_eq_getElem hl]
          rfl
        have ax : atI (P.map I) ((q.fdiv 8).fmod ((P.length : Nat) : Int)) = some (.v (.int x)) := by
          rw [← ex]
          exact atI_map (f := I) bd.1 bd.2
        have dl : divOk ((P.length : Nat) : Int) := divOk_s (by omega) (by omega)
        have dz : (((P.length : Nat) : Int) = 0) = False := eq_false (by omega)
        have pl : (((P.map I).length : Nat) : Int) = ((P.length : Nat) : Int) := by rw [List.length_map]
        have mv : ∃ m' UL' c' S', g_law_moved [.loc L.f, .loc t.qo, .v (.int x), .v (.int z)] S = .ok (.v (.bl true)) S' ∧ FInv t [p0, p1] L m' hd ts c' RK SL UL' S' := by
          cases hu : tlv m x with
          | none =>
            obtain ⟨m', UL', S', e, F'⟩ := moved_on F (pr x hx) hu z
            exact ⟨m', UL', _, S', e, F'⟩
          | some u =>
            obtain ⟨m', S', e, F'⟩ := moved_off F (pr x hx) hu z
            exact ⟨m', UL, _, S', e, F'⟩
        obtain ⟨m', UL', c', S', e, F'⟩ := mv
        refine ⟨⟨[.d (scr ns), x1, x2, x3, x4, .own (.lst [rowT (.doorA p0.1 p0.2 [0] t.dn), rowT (.doorA p1.1 p1.2 [0] t.dn)]), x6, x7, .d (.loc L.f), .d (.loc t.qo), .d (.v (.int z)), .d (.v (.int k)), .d (.v (.int q)), .d (.v (.int (q.fdiv 8))), .own (.lst (P.map I)), .d (.v (.bl true)), .no], S'⟩, ?_, m', _, _, _, RK, SL, UL', S', z, _, _, _, _, rfl, F'⟩
        generalize ((P.length : Nat) : Int) = pn at *
        generalize P.map I = PI at *
        simp_arith [dRGet, rdcD, dctD, keyD, dIdx, dPut, dAugL, dDAug, dDPut, dSt, pl, dl, dz, ax, e]
      · intro _
        refine if_and (decide (q.fmod 8 = 6)) (decide ((q.fdiv 8).fmod 3 = 0)) (by simp_arith [dRGet, rdcD, dctD, keyD, dIdx, dPut, dAugL, dDAug, dDPut, dSt, d8]) (by simp_arith [dRGet, rdcD, dctD, keyD, dIdx, dPut, dAugL, dDAug, dDPut, dSt, d3]) ?_ ?_
        · intro _ _
          obtain ⟨m', hd', ts', S', e, F'⟩ := changed_ok F ((q.fdiv 8).fdiv 3)
          refine ⟨⟨[.d (scr ns), x1, x2, x3, x4, .own (.lst [rowT (.doorA p0.1 p0.2 [0] t.dn), rowT (.doorA p1.1 p1.2 [0] t.dn)]), x6, x7, .d (.loc L.f), .d (.loc t.qo), .d (.v (.int z)), .d (.v (.int k)), .d (.v (.int q)), .d (.v (.int (q.fdiv 8))), .own (.lst (P.map I)), .d (.v (.bl true)), .no], S'⟩, ?_, m', _, _, _, RK, SL, UL, S', z, _, _, _, _, rfl, F'⟩
          simp_arith [dRGet, rdcD, dctD, keyD, dIdx, dPut, dAugL, dDAug, dDPut, dSt, d3, e]
        · intro _
          refine ⟨⟨[.d (scr ns), x1, x2, x3, x4, .own (.lst [rowT (.doorA p0.1 p0.2 [0] t.dn), rowT (.doorA p1.1 p1.2 [0] t.dn)]), x6, x7, .d (.loc L.f), .d (.loc t.qo), .d (.v (.int (z + 1 + (q.fdiv 8).fmod 3))), .d (.v (.int k)), .d (.v (.int q)), .d (.v (.int (q.fdiv 8))), .own (.lst (P.map I)), .d (.v (.bl true)), .no], S⟩, ?_, m, _, _, _, RK, SL, UL, S, _, _, _, _, _, rfl, F⟩
          simp_arith [dRGet, rdcD, dctD, keyD, dIdx, dPut, dAugL, dDAug, dDPut, dSt, d3]
  · rintro _ ⟨m', hd', ts', c', RK', SL', UL', S', z', y11, y12, y13, y14, rfl, F'⟩
    obtain ⟨U, e⟩ := all_right_ok F'.K z'
    refine ⟨⟨[.d (scr ns), x1, x2, x3, x4, .own (.lst [rowT (.doorA p0.1 p0.2 [0] t.dn), rowT (.doorA p1.1 p1.2 [0] t.dn)]), x6, x7, .d (.loc L.f), .d (.loc t.qo), .d (.v (.int z')), y11, y12, y13, y14, .d (.v (.bl true)), .no], S' ++ U⟩, ?_, m', hd', ts', c', RK', SL', UL', S' ++ U, z', _, _, _, _, _, rfl, F'.push U⟩
    simp_arith [dRGet, rdcD, dctD, keyD, dIdx, dPut, dAugL, dDAug, dDPut, dSt, e]
def rk22 (c z : Int) : Int := ([0, (c.fdiv (5 + z)).fmod 10] : List Int).getD ((c.fdiv 2).fmod 2).toNat 0
theorem ranks22 (c : Int) (r0 : List Slot) (x0 x1 x3 : Slot) : itL (dName 11) (M.pure true) claw3e [11] r0 (rngD 0 2) [] ⟨[x0, x1, .d (.v (.int c)), x3, .no, .no, .no, .no, .no, .no, .no, .no, .no, .no, .no, .no, .no], []⟩ = .ok [I (rk22 c 0), I (rk22 c 1)] ⟨[x0, x1, .d (.v (.int c)), x3, .no, .no, .no, .no, .no, .no, .no, .no, .no, .no, .no, .no, .no], []⟩ := by
  have d2 : divOk 2 := divOk_s (by decide) (by decide)
  have d10 : divOk 10 := divOk_s (by decide) (by decide)
  exact itL_rng (f := fun z => I (rk22 c z)) (n := 2) (by omega) (fun z z0 z1 => by
    have dz : divOk (5 + z) := divOk_s (by omega) (by omega)
    have d0 : (5 + z = 0) = False := eq_false (by omega)
    have er := atI_fmod (f := I) (xs := [0, (c.fdiv (5 + z)).fmod 10]) (c := c.fdiv 2) (m := 2) (d := 0) rfl (by decide)
    simp only [List.map_cons, List.map_nil, I] at er
    unfold rk22
    refine ⟨⟨[x0, x1, .d (.v (.int c)), x3, .no, .no, .no, .no, .no, .no, .no, .d (.v (.int z)), .no, .no, .no, .no, .no], []⟩, rfl, rfl, rfl, ⟨[x0, x1, .d (.v (.int c)), x3, .no, .no, .no, .no, .no, .no, .no, .d (.v (.int z)), .no, .no, .no, .no, .no], []⟩, ?_, rfl, rfl⟩
    simp_arith [claw3e, dz, d0, d2, d10, er, I]) _ rfl rfl
def dr22 (c : Int) (ws : List Str) (z : Int) : Sta := .doorA (pk ws (2 + z)) (rk22 c z) [0] (pk ws 0)
theorem doors22 (c : Int) (ws : List Str) (hw : 4 ≤ ws.length) (r0 : List Slot) (x0 x3 : Slot) : itL (dName 11) (M.pure true) claw2e [11] r0 (rngD 0 2) [] ⟨[x0, .d (.lst (Ss ws)), .d (.v (.int c)), x3, .own (.lst [I (rk22 c 0), I (rk22 c 1)]), .no, .no, .no, .no, .no, .no, .no, .no, .no, .no, .no, .no], []⟩ = .ok [rowT (dr22 c ws 0), rowT (dr22 c ws 1)] ⟨[x0, .d (.lst (Ss ws)), .d (.v (.int c)), x3, .own (.lst [I (rk22 c 0), I (rk22 c 1)]), .no, .no, .no, .no, .no, .no, .no, .no, .no, .no, .no, .no], []⟩ := by
  exact itL_rng (f := fun z => rowT (dr22 c ws z)) (n := 2) (by omega) (fun z z0 z1 => by
    have a0 := pk_at (gs := ws) (i := 0) (by omega) (by omega)
    have a2 := pk_at (gs := ws) (i := 2 + z) (by omega) (by omega)
    have er : atI [I (rk22 c 0), I (rk22 c 1)] z = some (I (rk22 c z)) := by
      have : z = 0 ∨ z = 1 := by omega
      rcases this with rfl | rfl <;> rfl
    have e : rowT (dr22 c ws z) = .tup [.v (.str "door"), sD (pk ws (2 + z)), I (rk22 c z), .tup [.v (.str "at"), .tup [.v (.int 0)]], sD (pk ws 0)] := rfl
    rw [e]
    refine ⟨⟨[x0, .d (.lst (Ss ws)), .d (.v (.int c)), x3, .own (.lst [I (rk22 c 0), I (rk22 c 1)]), .no, .no, .no, .no, .no, .no, .d (.v (.int z)), .no, .no, .no, .no, .no], []⟩, rfl, rfl, rfl, ⟨[x0, .d (.lst (Ss ws)), .d (.v (.int c)), x3, .own (.lst [I (rk22 c 0), I (rk22 c 1)]), .no, .no, .no, .no, .no, .no, .d (.v (.int z)), .no, .no, .no, .no, .no], []⟩, ?_, rfl, rfl⟩
    generalize rk22 c z = rz at *
    generalize I (rk22 c 0) = r0' at *
    generalize I (rk22 c 1) = r1' at *
    generalize Ss ws = WS at *
    simp_arith [claw2e, a0, a2, er, I]) _ rfl rfl
def sts22 (c d : Int) (ws : List Str) : List Sta := [desk22 d (pk ws 0) (pk ws 1), .exit (pk ws 1), dr22 c ws 0, dr22 c ws 1]
def kt22 (d : Int) (ws : List Str) (a : Nat) : Kt := { dn := pk ws 0, en := pk ws 1, kk := kk22 d, rs := rests22 d, qo := a + 4, qr := a, qk := a + 1, qs := a + 2, qu := a + 3 }
theorem start_ok (c d : Int) (ws : List Str) (nd : ∀ i j : Nat, i < 4 → j < 4 → i ≠ j → pk ws (i : Nat) ≠ pk ws (j : Nat)) (k : Nat) (hk : k < 4) :
    ∃ L S, g_Floor___init__ [.loc 0, .lst (((sts22 c d ws).drop k ++ (sts22 c d ws).take k).map rowT)] [.ins Env.Floor []] = .ok (.v .non) S ∧ L.f = 0 ∧
      ∃ m, FInv (kt22 d ws S.length) [(pk ws 2, rk22 c 0), (pk ws 3, rk22 c 1)] L m (hands22 d) (takes22 d) 0 [] [] [] (S ++ [.lst [], .lst [], .lst [], .lst [], .dct (ownD (kt22 d ws S.length) (hands22 d) (takes22 d) 0)]) := by
  obtain ⟨hall, hhall⟩ : ∃ hall, (sts22 c d ws).drop k ++ (sts22 c d ws).take k = hall := ⟨_, rfl⟩
  have mem : ∀ s, s ∈ hall ↔ s ∈ sts22 c d ws := fun s => by rw [← hhall]; exact mem_turn _ k s
  have len : hall.length = 4 := by rw [← hhall, List.length_append, List.length_drop, List.length_take]; show 4 - k + min k 4 = 4; omega
  have n01 := nd 0 1 (by decide) (by decide) (by decide)
  have n02 := nd 0 2 (by decide) (by decide) (by decide)
  have n03 := nd 0 3 (by decide) (by decide) (by decide)
  have n12 := nd 1 2 (by decide) (by decide) (by decide)
  have n13 := nd 1 3 (by decide) (by decide) (by decide)
  have n23 := nd 2 3 (by decide) (by decide) (by decide)
  have nd0 : ((sts22 c d ws).map Sta.name).Nodup := by
    show [pk ws 0, pk ws 1, pk ws 2, pk ws 3].Nodup
    refine List.nodup_cons.mpr ⟨fun h => ?_, List.nodup_cons.mpr ⟨fun h => ?_, List.nodup_cons.mpr ⟨fun h => ?_, List.nodup_cons.mpr ⟨List.not_mem_nil, List.nodup_nil⟩⟩⟩⟩
    · rcases List.mem_cons.mp h with h | h
      · exact n01 h
      · rcases List.mem_cons.mp h with h | h
        · exact n02 h
        · exact n03 (List.mem_singleton.mp h)
    · rcases List.mem_cons.mp h with h | h
      · exact n12 h
      · exact n13 (List.mem_singleton.mp h)
    · exact n23 (List.mem_singleton.mp h)
  have nd1 : (hall.map Sta.name).Nodup := by rw [← hhall]; exact nd_turn _ k _ nd0
  have here : ∀ s ∈ hall, hereS s = true := fun s hs => by
    rw [mem] at hs
    unfold sts22 at hs
    rcases List.mem_cons.mp hs with rfl | hs
    · rfl
    rcases List.mem_cons.mp hs with rfl | hs
    · rfl
    rcases List.mem_cons.mp hs with rfl | hs
    · rfl
    rw [List.mem_singleton.mp hs]
    rfl
  have g : Good (fm0 []) hall := good_of hall (fm0 []) here nd1 (fun s _ => ⟨List.not_mem_nil, List.not_mem_nil, List.not_mem_nil⟩) (by rw [len]; decide) (by rw [len]; decide) (by rw [len]; decide)
  obtain ⟨L, S, e, h, f⟩ := finit [] [] (fun i a c e => by simp at e) (fun i j a c c' e => by simp at e) hall g
  have ad := adds_all hall (fm0 [])
  have ah := adds_has hall (fm0 []) nd1
  obtain ⟨m, hm⟩ : ∃ m, hall.foldl Fm.addSt (fm0 []) = m := ⟨_, rfl⟩
  rw [hm] at h ad ah
  have vis : m.vis = [] := ad.vis
  have own : m.own = [] := ad.own
  have rows : ∀ n, m.rows n = [] := ad.rows fun _ => rfl
  have A0 := ah (desk22 d (pk ws 0) (pk ws 1)) ((mem _).mpr (by unfold sts22; simp)) rfl
  have A1 := ah (.exit (pk ws 1)) ((mem _).mpr (by unfold sts22; simp)) rfl
  have A2 := ah (dr22 c ws 0) ((mem _).mpr (by unfold sts22; simp)) rfl
  have A3 := ah (dr22 c ws 1) ((mem _).mpr (by unfold sts22; simp)) rfl
  obtain ⟨t, ht⟩ : ∃ t, kt22 d ws S.length = t := ⟨_, rfl⟩
  have t1 : t.dn = pk ws 0 := by rw [← ht]; rfl
  have t2 : t.en = pk ws 1 := by rw [← ht]; rfl
  have t3 : t.rs = rests22 d := by rw [← ht]; rfl
  have h1 := (((((h.addOwn (.lst [])).addOwn (.lst [])).addOwn (.lst [])).addOwn (.lst [])).addOwn (.dct (ownD t (hands22 d) (takes22 d) 0)))
  have h2 := h1.ownTo [(t.qo, .dct (ownD t (hands22 d) (takes22 d) 0)), (t.qr, .lst []), (t.qk, .lst []), (t.qs, .lst []), (t.qu, .lst [])] (fun i a c e => by
    have o : ∀ j : Nat, ((((((m.addOwn S.length (Cell.lst [])).addOwn (S ++ [(Cell.lst [])]).length (Cell.lst [])).addOwn (S ++ [(Cell.lst [])] ++ [(Cell.lst [])]).length (Cell.lst [])).addOwn (S ++ [(Cell.lst [])] ++ [(Cell.lst [])] ++ [(Cell.lst [])]).length (Cell.lst [])).addOwn (S ++ [(Cell.lst [])] ++ [(Cell.lst [])] ++ [(Cell.lst [])] ++ [(Cell.lst [])]).length (Cell.dct (ownD t (hands22 d) (takes22 d) 0))).own)[j]? = ([(t.qr, (Cell.lst [])), (t.qk, (Cell.lst [])), (t.qs, (Cell.lst [])), (t.qu, (Cell.lst [])), (t.qo, .dct (ownD t (hands22 d) (takes22 d) 0))] : List (Nat × Cell))[j]? := fun j => by
      show (m.own ++ _ ++ _ ++ _ ++ _ ++ _)[j]? = _
      rw [own, ← ht]
      simp [kt22]
    match i, e with
    | 0, e => exact ⟨4, (o 4).trans e⟩
    | 1, e => exact ⟨0, (o 0).trans e⟩
    | 2, e => exact ⟨1, (o 1).trans e⟩
    | 3, e => exact ⟨2, (o 2).trans e⟩
    | 4, e => exact ⟨3, (o 3).trans e⟩
    | i + 5, e => simp at e) (fun i j a c c' e e' => by
    have key : ∀ (i : Nat) (c : Cell), ([(t.qo, .dct (ownD t (hands22 d) (takes22 d) 0)), (t.qr, .lst []), (t.qk, .lst []), (t.qs, .lst []), (t.qu, .lst [])] : List (Nat × Cell))[i]? = some (a, c) → (i = 0 ∧ a = S.length + 4) ∨ (i = a + 1 - S.length ∧ S.length ≤ a ∧ a < S.length + 4) := fun i c e => by
      rw [← ht] at e
      match i, e with
      | 0, e => simp [kt22] at e; exact .inl ⟨rfl, e.1.symm⟩
      | 1, e => simp [kt22] at e; exact .inr (by omega)
      | 2, e => simp [kt22] at e; exact .inr (by omega)
      | 3, e => simp [kt22] at e; exact .inr (by omega)
      | 4, e => simp [kt22] at e; exact .inr (by omega)
      | i + 5, e => simp at e
    rcases key i c e with h | h <;> rcases key j c' e' with h' | h' <;> omega)
  simp only [List.append_assoc, List.cons_append, List.nil_append] at h2
  refine ⟨L, S, by rw [hhall]; exact e, f, ?_⟩
  rw [ht]
  refine ⟨_, ⟨⟨h2, ?_, ⟨?_, ?_, ?_⟩, ?_, ?_, ?_, ?_, ?_, ?_, ?_⟩, ?_, ?_, ?_, ?_, ?_, ?_, ?_, ?_⟩⟩
  · show ([_, (t.qr, Cell.lst []), _, _, _] : List (Nat × Cell)) = [_, (t.qr, Cell.lst ((m.rows t.dn).map I)), _, _, _]
    rw [rows]
    rfl
  · intro x hx
    have hx : x ∈ m.rows t.dn := hx
    rw [rows] at hx
    exact absurd hx List.not_mem_nil
  · intro x hx
    have hx : x ∈ m.rows t.dn := hx
    rw [rows] at hx
    exact absurd hx List.not_mem_nil
  · intro x hx
    have hx : x ∈ m.rows t.dn := hx
    rw [rows] at hx
    exact absurd hx List.not_mem_nil
  · rw [t1]
    exact A0.1.1
  · rw [← ht]
    exact A0.1.2
  · intro x hx
    have hx : x ∈ m.rows t.dn := hx
    rw [rows] at hx
    exact absurd hx List.not_mem_nil
  · show (m.rows t.dn).Nodup
    rw [rows]
    exact List.nodup_nil
  · show (m.rows t.dn).length ≤ 900
    rw [rows]
    exact Nat.zero_le _
  · have b4 := fmod_bd (c := d) (m := 4) (by decide)
    unfold takes22
    rw [numsD_len]
    omega
  · have b4 := fmod_bd (c := d.fdiv 4) (m := 4) (by decide)
    rw [t3]
    unfold rests22
    rw [List.length_map, List.length_range]
    omega
  · rw [t2]
    exact A1.1.1
  · rw [t1, t2]
    exact fun e => n01 e.symm
  · intro p hp
    rcases List.mem_cons.mp hp with rfl | hp
    · have B := A2.2 rfl
      exact ⟨A2.1.1, B.1, B.2, rows _, by rw [← ht]; exact A2.1.2, by rw [t1]; exact fun e => n02 e.symm, by rw [t2]; exact fun e => n12 e.symm⟩
    · rw [List.mem_singleton.mp hp]
      have B := A3.2 rfl
      exact ⟨A3.1.1, B.1, B.2, rows _, by rw [← ht]; exact A3.1.2, by rw [t1]; exact fun e => n03 e.symm, by rw [t2]; exact fun e => n13 e.symm⟩
  · show 0 = m.vis.length
    rw [vis]
    rfl
  · show 0 = m.vis.length
    rw [vis]
    rfl
  · show 0 = m.vis.length
    rw [vis]
    rfl
  · show (m.rows t.dn).length + (m.rows t.en).length ≤ _
    rw [rows, rows]
    exact Nat.zero_le _
  · show m.vis.length ≤ 60
    rw [vis]
    exact Nat.zero_le _
theorem seq_q {a b : M Fl} {c c1 : Stt} {Q : R Fl → Prop} (h : a c = .ok .nx c1) (k : Q (b c1)) : Q (dSeq a b c) := by
  unfold dSeq M.bind
  rw [h]
  exact k
def RetT (r : R Fl) : Prop := ∃ c, r = .ok (.rt (.v (.bl true))) c
theorem law_true (ns : List Int) (h : ns.length ≤ 63) : ∃ S, runD 17 1 den_law [scr ns] [] = .ok (.v (.bl true)) S := by
  suffices q : RetT (den_law ⟨[.d (scr ns), .no, .no, .no, .no, .no, .no, .no, .no, .no, .no, .no, .no, .no, .no, .no, .no], []⟩) by
    obtain ⟨c, e⟩ := q
    refine ⟨c.S, ?_⟩
    show (match den_law ⟨[.d (scr ns), .no, .no, .no, .no, .no, .no, .no, .no, .no, .no, .no, .no, .no, .no, .no, .no], []⟩ with
      | .ok (.rt d) c => RF.ok d c.S
      | .ok .nx c => .ok (.v .non) c.S
      | .ex e c => .ex e c.S
      | _ => .no) = _
    rw [e]
  have d2 : divOk 2 := divOk_s (by decide) (by decide)
  have d4 : divOk 4 := divOk_s (by decide) (by decide)
  have d7 : divOk 7 := divOk_s (by decide) (by decide)
  have d28 : divOk 28 := divOk_s (by decide) (by decide)
  have d31 : divOk 31 := divOk_s (by decide) (by decide)
  have g0 := gc ns 0 [] (by decide)
  have g1 := gc ns 1 [] (by decide)
  have x0 := gx (ns.getD (0 : Int).toNat 0) 1 [] (by decide)
  have x1 := gx (ns.getD (0 : Int).toNat 0) 2 [] (by decide)
  have x2 := gx (ns.getD (1 : Int).toNat 0) 3 [] (by decide)
  generalize ns.getD (0 : Int).toNat 0 = n0 at *
  generalize ns.getD (1 : Int).toNat 0 = n1 at *
  generalize mixed n0 1 = c0 at *
  generalize mixed n0 2 = c at *
  generalize mixed n1 3 = d at *
  have nk := names_ok c0 []
  obtain ⟨ws, hws⟩ : ∃ ws, nms c0 = ws := ⟨_, rfl⟩
  have wl : ws.length = 22 := by rw [← hws]; exact nms_len c0
  have nd : ∀ i j : Nat, i < 4 → j < 4 → i ≠ j → pk ws (i : Nat) ≠ pk ws (j : Nat) := fun i j hi hj ne => by
    rw [← hws, pk_nms (by omega), pk_nms (by omega)]
    exact nm_ne c0 (by omega) (by omega) ne
  rw [hws] at nk
  have dk := desk_ok d ws (by omega) []
  have b4 := fmod_bd (c := c.fdiv 7) (m := 4) (by decide)
  have b31 := fmod_bd (c := c.fdiv 28) (m := 31) (by decide)
  obtain ⟨k, hk⟩ : ∃ k : Int, (c.fdiv 7).fmod 4 = k := ⟨_, rfl⟩
  rw [hk] at b4
  obtain ⟨L, S, ef, f, m, F⟩ := start_ok c d ws nd k.toNat (by omega)
  have ct := cut_turn (sts22 c d ws) k (by omega) (by show k ≤ 4; omega)
  rw [← ct] at ef
  have ex : sts22 c d ws = [desk22 d (pk ws 0) (pk ws 1), .exit (pk ws 1), dr22 c ws 0, dr22 c ws 1] := rfl
  have xr : rowT (.exit (pk ws 1)) = .tup [.v (.str "exit"), sD (pk ws 1)] := rfl
  have a1 := pk_at (gs := ws) (i := 1) (by omega) (by omega)
  have e3 := fun r0 => ranks22 c r0 (.d (scr ns)) (.d (.lst (Ss ws))) (.d (rowT (desk22 d (pk ws 0) (pk ws 1))))
  have e4 := fun r0 => doors22 c ws (by omega) r0 (.d (scr ns)) (.d (rowT (desk22 d (pk ws 0) (pk ws 1))))
  have zw : (Ss ws).length = 22 := by rw [Ss_len, wl]
  unfold den_law
  refine seq_q (c1 := ⟨[.d (scr ns), .d (.lst (Ss ws)), .no, .no, .no, .no, .no, .no, .no, .no, .no, .no, .no, .no, .no, .no, .no], []⟩) (by
    generalize Ss ws = WS at *
    simp_arith [dRGet, rdcD, dctD, keyD, dIdx, dPut, dAugL, dDAug, dDPut, dSt, g0, x0, nk]) ?_
  refine seq_q (c1 := ⟨[.d (scr ns), .d (.lst (Ss ws)), .d (.v (.int c)), .no, .no, .no, .no, .no, .no, .no, .no, .no, .no, .no, .no, .no, .no], []⟩) (by simp_arith [dRGet, rdcD, dctD, keyD, dIdx, dPut, dAugL, dDAug, dDPut, dSt, g0, x1]) ?_
  refine seq_q (c1 := ⟨[.d (scr ns), .d (.lst (Ss ws)), .d (.v (.int c)), .d (rowT (desk22 d (pk ws 0) (pk ws 1))), .no, .no, .no, .no, .no, .no, .no, .no, .no, .no, .no, .no, .no], []⟩) (by
    generalize rowT (desk22 d (pk ws 0) (pk ws 1)) = DK at *
    generalize Ss ws = WS at *
    simp_arith [dRGet, rdcD, dctD, keyD, dIdx, dPut, dAugL, dDAug, dDPut, dSt, g1, x2, dk]) ?_
  refine seq_q (c1 := ⟨[.d (scr ns), .d (.lst (Ss ws)), .d (.v (.int c)), .d (rowT (desk22 d (pk ws 0) (pk ws 1))), .own (.lst [I (rk22 c 0), I (rk22 c 1)]), .no, .no, .no, .no, .no, .no, .no, .no, .no, .no, .no, .no], []⟩) (by
    have z2 : (2 : Int).toNat = 2 := rfl
    generalize rowT (desk22 d (pk ws 0) (pk ws 1)) = DK at *
    generalize Ss ws = WS at *
    simp_arith [dRGet, rdcD, dctD, keyD, dIdx, dPut, dAugL, dDAug, dDPut, dSt, z2, e3, -itL]) ?_
  refine seq_q (c1 := ⟨[.d (scr ns), .d (.lst (Ss ws)), .d (.v (.int c)), .d (rowT (desk22 d (pk ws 0) (pk ws 1))), .own (.lst [I (rk22 c 0), I (rk22 c 1)]), .own (.lst [rowT (dr22 c ws 0), rowT (dr22 c ws 1)]), .no, .no, .no, .no, .no, .no, .no, .no, .no, .no, .no], []⟩) (by
    have z2 : (2 : Int).toNat = 2 := rfl
    generalize rowT (desk22 d (pk ws 0) (pk ws 1)) = DK at *
    generalize rowT (dr22 c ws 0) = R0 at *
    generalize rowT (dr22 c ws 1) = R1 at *
    generalize Ss ws = WS at *
    simp_arith [dRGet, rdcD, dctD, keyD, dIdx, dPut, dAugL, dDAug, dDPut, dSt, z2, e4, -itL]) ?_
  refine seq_q (c1 := ⟨[.d (scr ns), .d (.lst (Ss ws)), .d (.v (.int c)), .d (rowT (desk22 d (pk ws 0) (pk ws 1))), .own (.lst [I (rk22 c 0), I (rk22 c 1)]), .own (.lst [rowT (dr22 c ws 0), rowT (dr22 c ws 1)]), .d (.lst ((sts22 c d ws).map rowT)), .no, .no, .no, .no, .no, .no, .no, .no, .no, .no], []⟩) (by
    rw [ex, List.map_cons, List.map_cons, List.map_cons, List.map_cons, List.map_nil, xr]
    generalize rowT (desk22 d (pk ws 0) (pk ws 1)) = DK at *
    generalize rowT (dr22 c ws 0) = R0 at *
    generalize rowT (dr22 c ws 1) = R1 at *
    generalize Ss ws = WS at *
    simp_arith [dRGet, rdcD, dctD, keyD, dIdx, dPut, dAugL, dDAug, dDPut, dSt, a1, -itL]) ?_
  refine seq_q (c1 := ⟨[.d (scr ns), .d (.lst (Ss ws)), .d (.v (.int c)), .d (rowT (desk22 d (pk ws 0) (pk ws 1))), .own (.lst [I (rk22 c 0), I (rk22 c 1)]), .own (.lst [rowT (dr22 c ws 0), rowT (dr22 c ws 1)]), .d (.lst ((sts22 c d ws).map rowT)), .d (.v (.int k)), .no, .no, .no, .no, .no, .no, .no, .no, .no], []⟩) (by
    simp_arith [dRGet, rdcD, dctD, keyD, dIdx, dPut, dAugL, dDAug, dDPut, dSt, d4, d7, hk, -itL]) ?_
  refine seq_q (c1 := ⟨[.d (scr ns), .d (.lst (Ss ws)), .d (.v (.int c)), .d (rowT (desk22 d (pk ws 0) (pk ws 1))), .own (.lst [I (rk22 c 0), I (rk22 c 1)]), .own (.lst [rowT (dr22 c ws 0), rowT (dr22 c ws 1)]), .d (.lst ((sts22 c d ws).map rowT)), .d (.v (.int k)), .d (.loc L.f), .no, .no, .no, .no, .no, .no, .no, .no], S⟩) (by
    have zs : ((sts22 c d ws).map rowT).length = 4 := rfl
    have zc1 : (cutL ((sts22 c d ws).map rowT) (some k) none).length + (cutL ((sts22 c d ws).map rowT) none (some k)).length = 4 := by
      rw [← List.length_append, ct, List.length_map, List.length_append, List.length_drop, List.length_take]
      show 4 - k.toNat + min k.toNat 4 = 4
      omega
    rw [f]
    generalize (sts22 c d ws).map rowT = HS at *
    simp_arith [dMake, dRGet, rdcD, dctD, keyD, dIdx, dPut, dAugL, dDAug, dDPut, dSt, ef, zc1, -itL]) ?_
  have dd : rowT (desk22 d (pk ws 0) (pk ws 1)) = deskD (kt22 d ws S.length) (hands22 d) (takes22 d) := rfl
  obtain ⟨t, ht⟩ : ∃ t, kt22 d ws S.length = t := ⟨_, rfl⟩
  rw [ht] at F dd
  have qo : t.qo = S.length + 4 := by rw [← ht]; rfl
  have ow : ∀ x, mergeD [] [(.inr "desk", deskD t (hands22 d) (takes22 d)), (.inr "row", .loc S.length), (.inr "ranks", .loc (S.length + 1)), (.inr "since", .loc (S.length + 2)), (.inr "until", .loc (S.length + 3)), (.inr "begun", .v (.int x))] = ownD t (hands22 d) (takes22 d) x := fun x => by rw [← ht]; rfl
  obtain ⟨OW, hOW⟩ : ∃ OW, ownD t (hands22 d) (takes22 d) 0 = OW := ⟨_, rfl⟩
  have ow0 := ow 0
  rw [hOW] at F ow0
  rw [dd]
  refine seq_q (c1 := ⟨[.d (scr ns), .d (.lst (Ss ws)), .d (.v (.int c)), .d (deskD t (hands22 d) (takes22 d)), .own (.lst [I (rk22 c 0), I (rk22 c 1)]), .own (.lst [rowT (dr22 c ws 0), rowT (dr22 c ws 1)]), .d (.lst ((sts22 c d ws).map rowT)), .d (.v (.int k)), .d (.loc L.f), .d (.loc t.qo), .no, .no, .no, .no, .no, .no, .no], S ++ [.lst [], .lst [], .lst [], .lst [], .dct OW]⟩) (by
    rw [qo]
    generalize deskD t (hands22 d) (takes22 d) = DK at *
    generalize (sts22 c d ws).map rowT = HS at *
    generalize rowT (dr22 c ws 0) = R0 at *
    generalize rowT (dr22 c ws 1) = R1 at *
    generalize Ss ws = WS at *
    simp_arith [dDisp, dPairs, dRGet, rdcD, dctD, keyD, dIdx, dPut, dAugL, dDAug, dDPut, dSt, ow0, List.append_assoc, List.length_append, -itL]) ?_
  have ed0 : rowT (dr22 c ws 0) = rowT (.doorA (pk ws 2, rk22 c 0).1 (pk ws 2, rk22 c 0).2 [0] t.dn) := by rw [← ht]; rfl
  have ed1 : rowT (dr22 c ws 1) = rowT (.doorA (pk ws 3, rk22 c 1).1 (pk ws 3, rk22 c 1).2 [0] t.dn) := by rw [← ht]; rfl
  rw [ed0, ed1]
  refine seq_q (c1 := ⟨[.d (scr ns), .d (.lst (Ss ws)), .d (.v (.int c)), .d (deskD t (hands22 d) (takes22 d)), .own (.lst [I (rk22 c 0), I (rk22 c 1)]), .own (.lst [rowT (.doorA (pk ws 2, rk22 c 0).1 (pk ws 2, rk22 c 0).2 [0] t.dn), rowT (.doorA (pk ws 3, rk22 c 1).1 (pk ws 3, rk22 c 1).2 [0] t.dn)]), .d (.lst ((sts22 c d ws).map rowT)), .d (.v (.int k)), .d (.loc L.f), .d (.loc t.qo), .d (.v (.int 0)), .no, .no, .no, .no, .no, .no], S ++ [.lst [], .lst [], .lst [], .lst [], .dct OW]⟩) rfl ?_
  obtain ⟨n, hn⟩ : ∃ n : Int, 10 + (c.fdiv 28).fmod 31 = n := ⟨_, rfl⟩
  obtain ⟨c', e, _⟩ := itF_invL (dg := dName 11) (db := flaw1b) (Inv := fun _ c' => Beh ns t (pk ws 2, rk22 c 0) (pk ws 3, rk22 c 1) L (.d (.lst (Ss ws))) (.d (.v (.int c))) (.d (deskD t (hands22 d) (takes22 d))) (.own (.lst [I (rk22 c 0), I (rk22 c 1)])) (.d (.lst ((sts22 c d ws).map rowT))) (.d (.v (.int k))) c') (rngD 0 n.toNat) ⟨[.d (scr ns), .d (.lst (Ss ws)), .d (.v (.int c)), .d (deskD t (hands22 d) (takes22 d)), .own (.lst [I (rk22 c 0), I (rk22 c 1)]), .own (.lst [rowT (.doorA (pk ws 2, rk22 c 0).1 (pk ws 2, rk22 c 0).2 [0] t.dn), rowT (.doorA (pk ws 3, rk22 c 1).1 (pk ws 3, rk22 c 1).2 [0] t.dn)]), .d (.lst ((sts22 c d ws).map rowT)), .d (.v (.int k)), .d (.loc L.f), .d (.loc t.qo), .d (.v (.int 0)), .no, .no, .no, .no, .no, .no], S ++ [.lst [], .lst [], .lst [], .lst [], .dct OW]⟩ ⟨_, _, _, _, _, _, _, _, _, _, _, _, _, _, rfl, F⟩ (by
    rintro j dj _ hd ⟨m, hd', ts', c', RK, SL, UL, S', z, y11, y12, y13, y14, y15, rfl, F'⟩
    obtain ⟨rfl, hj⟩ := rng_at hd
    obtain ⟨c2, e2, B⟩ := turn_ok (ns := ns) (x1 := .d (.lst (Ss ws))) (x2 := .d (.v (.int c))) (x3 := .d (deskD t (hands22 d) (takes22 d))) (x4 := .own (.lst [I (rk22 c 0), I (rk22 c 1)])) (x6 := .d (.lst ((sts22 c d ws).map rowT))) (x7 := .d (.v (.int k))) F' z (0 + ((j : Nat) : Int)) (by omega) (by omega) y12 y13 y14 y15
    exact ⟨_, rfl, c2, e2, B⟩)
  have q1 : -4611686018427387904 ≤ n := by omega
  have q2 : n.toNat < 4611686018427387904 := by omega
  refine seq_q (c1 := c') ?_ ⟨c', rfl⟩
  rw [← e]
  refine dFor_of ?_
  simp_arith [dRGet, rdcD, dctD, keyD, dIdx, dPut, dAugL, dDAug, dDPut, dSt, d28, d31, hn, q1, q2, -itL]
end
theorem all_ok [en : Env] {P : Program} {w : World} {K : PySem.W.Frag} {mg : Str → Option Value} (T : Tx K mg Env.Place Env.Passing Env.DeskPlace Env.Visitor Env.Floor Env.cl_DeskPlace_first Env.tl_DeskPlace_first) : ∃ f fd, mg "law" = some (.ref f) ∧ (∀ us : List Value, us.length = 1 → bindArgs fd ⟨us, []⟩ = pure ((["_law_script"] : List Str).zip us)) ∧ ∀ base : Heap, K.In base → base.Ns mainGlobals mg → (∀ p ∈ [(Env.cl_DeskPlace_first, Env.tl_DeskPlace_first)], LamX.TabB base mg p.1 p.2) → FnOk P w K mg base (L2N.CX P w) 8 f fd ["_law_script"] (spG K (runD 17 1 den_law)) := by
  obtain ⟨f, fd, F, hm, hb⟩ := T.d_law
  refine ⟨f, fd, hm, hb, fun base _ _ hT => ?_⟩
  have h_T_DeskPlace_first := hT (Env.cl_DeskPlace_first, Env.tl_DeskPlace_first) (by simp)
  have h_F__law_ahead := ok_law_ahead (P := P) (w := w) (base := base) T 
  have h_F__law_cell_at := ok_law_cell_at (P := P) (w := w) (base := base) T 
  have h_F__law_mixed := ok_law_mixed (P := P) (w := w) (base := base) T 
  have h_F__law_names := ok_law_names (P := P) (w := w) (base := base) T 
  have h_B_Place___init__ := ok_B_Place___init__ (P := P) (w := w) (base := base) T 
  have h_I_Place := ok_I_Place (P := P) (w := w) (base := base) T 
  have h_I_Visitor := ok_I_Visitor (P := P) (w := w) (base := base) T 
  have h_M_at_1 := ok_M_at_1 (P := P) (w := w) (base := base) T 
  have h_M_change_1_P := ok_M_change_1_P (P := P) (w := w) (base := base) T 
  have h_M_enter_3 := ok_M_enter_3 (P := P) (w := w) (base := base) T 
  have h_M_place_1 := ok_M_place_1 (P := P) (w := w) (base := base) T 
  have h_M_rank_1 := ok_M_rank_1 (P := P) (w := w) (base := base) T 
  have h_M_rests_at_1 := ok_M_rests_at_1 (P := P) (w := w) (base := base) T 
  have h_M_serve_2 := ok_M_serve_2 (P := P) (w := w) (base := base) T 
  have h_M_where_1 := ok_M_where_1 (P := P) (w := w) (base := base) T 
  have h_F__law_can := ok_law_can (P := P) (w := w) (base := base) T h_F__law_ahead
  have h_F__law_desk := ok_law_desk (P := P) (w := w) (base := base) T h_F__law_mixed
  have h_B_Passing___init__ := ok_B_Passing___init__ (P := P) (w := w) (base := base) T h_B_Place___init__
  have h_B_Passing_moves := ok_B_Passing_moves (P := P) (w := w) (base := base) T h_M_enter_3
  have h_I_Passing := ok_I_Passing (P := P) (w := w) (base := base) T h_B_Place___init__
  have h_M_change_1_F := ok_M_change_1_F (P := P) (w := w) (base := base) T h_M_change_1_P
  have h_M_served_1 := ok_M_served_1 (P := P) (w := w) (base := base) T h_M_at_1 h_M_where_1
  have h_F__law_changed := ok_law_changed (P := P) (w := w) (base := base) T h_M_change_1_F
  have h_I_DeskPlace := ok_I_DeskPlace (P := P) (w := w) (base := base) T h_B_Passing___init__
  have h_M_come_2 := ok_M_come_2 (P := P) (w := w) (base := base) T h_I_Visitor
  have h_M_moves_3 := ok_M_moves_3 (P := P) (w := w) (base := base) T h_B_Passing_moves h_M_enter_3 h_M_serve_2 h_M_where_1
  have h_M_first_1 := ok_M_first_1 (P := P) (w := w) (base := base) T h_M_at_1 h_M_rank_1 h_M_where_1 h_T_DeskPlace_first
  have h_M_move_2 := ok_M_move_2 (P := P) (w := w) (base := base) T h_M_moves_3 h_M_place_1
  have h_F__law_moved := ok_law_moved (P := P) (w := w) (base := base) T h_M_move_2 h_M_where_1
  have h_F_place_of := ok_place_of (P := P) (w := w) (base := base) T h_I_DeskPlace h_I_Passing h_I_Place
  have h_M_can_3 := ok_M_can_3 (P := P) (w := w) (base := base) T h_M_first_1 h_M_rests_at_1 h_M_served_1 h_M_where_1
  have h_I_Floor := ok_I_Floor (P := P) (w := w) (base := base) T h_F_place_of
  have h_M_can_2 := ok_M_can_2 (P := P) (w := w) (base := base) T h_M_can_3 h_M_place_1
  have h_F__law_all_right := ok_law_all_right (P := P) (w := w) (base := base) T h_F__law_can h_M_at_1 h_M_can_2 h_M_where_1
  have h_F__law_came := ok_law_came (P := P) (w := w) (base := base) T h_M_can_2 h_M_come_2 h_M_move_2
  exact raw_law T h_F__law_all_right h_F__law_came h_F__law_can h_F__law_cell_at h_F__law_changed h_F__law_desk h_F__law_mixed h_F__law_moved h_F__law_names h_I_Floor F
theorem fin {P : Program} {w : World} {K : PySem.W.Frag} {mg : Str → Option Value} {fa : Addr} {a_Place : Addr} {a_Passing : Addr} {a_DeskPlace : Addr} {a_Visitor : Addr} {a_Floor : Addr} {a_cl_DeskPlace_first : Addr} {a_tl_DeskPlace_first : Addr} (hmg : mg "law" = some (.ref fa)) (T : Tx K mg a_Place a_Passing a_DeskPlace a_Visitor a_Floor a_cl_DeskPlace_first a_tl_DeskPlace_first) (nd : ([a_Place, a_Passing, a_DeskPlace, a_Visitor, a_Floor] : List Addr).Nodup) (ndT : ([a_tl_DeskPlace_first] : List Addr).Nodup) : ∃ fd : FuncData, (∀ (s : Shared) (v : Value), BindsTo s fd ⟨[v], []⟩ [("_law_script", v)]) ∧ ∀ base : Heap, K.In base → base.Ns mainGlobals mg → (∀ p ∈ [(a_cl_DeskPlace_first, a_tl_DeskPlace_first)], LamX.TabB base mg p.1 p.2) → FnOk P w K mg base (L2N.CX P w) 8 fa fd ["_law_script"] (@spLaw (@tabs ⟨a_Place, a_Passing, a_DeskPlace, a_Visitor, a_Floor, a_cl_DeskPlace_first, a_tl_DeskPlace_first, nd, ndT⟩) 63 K) :=
  @My.law_okT (@tabs ⟨a_Place, a_Passing, a_DeskPlace, a_Visitor, a_Floor, a_cl_DeskPlace_first, a_tl_DeskPlace_first, nd, ndT⟩) _ _ _ _ _ _ _ _ _ _ _ (law_true (en := ⟨a_Place, a_Passing, a_DeskPlace, a_Visitor, a_Floor, a_cl_DeskPlace_first, a_tl_DeskPlace_first, nd, ndT⟩)) hmg (all_ok (en := ⟨a_Place, a_Passing, a_DeskPlace, a_Visitor, a_Floor, a_cl_DeskPlace_first, a_tl_DeskPlace_first, nd, ndT⟩) T)
end Law
namespace LawEnd
open Law PySem L2 My PyProof.Rows
def ts : List (Str × Option Str) := [("DeskPlace", some "first")]
def fa_0 : List He.Fa := [.glo "Place", .mkr "Place", .glo "Visitor", .mkr "Visitor", .glo "Passing", .mkr "Passing", .glo "DeskPlace", .mkr "DeskPlace", .glo "Floor", .mkr "Floor", .cls "Place", .cls "Passing", .cls "DeskPlace", .cls "Visitor", .cls "Floor", .noat "DeskPlace" "begun"]
def fa_1 : List He.Fa := [.noat "Place" "called", .noat "Passing" "called", .noat "DeskPlace" "called", .noat "Visitor" "called", .noat "Visitor" "grade", .noat "Floor" "guests", .noat "DeskPlace" "hands", .noat "DeskPlace" "is_ranked", .noat "Floor" "pools", .noat "Floor" "ranks", .noat "DeskPlace" "rests", .noat "Floor" "rows", .noat "Visitor" "since", .noat "Floor" "spots", .noat "DeskPlace" "takes", .noat "Passing" "then"]
def fa_2 : List He.Fa := [.noat "DeskPlace" "then", .noat "Visitor" "things", .noat "Visitor" "until", .glo "_law_ahead", .glo "_law_cell_at", .glo "_law_mixed", .glo "_law_names", .meth "Floor" "at", .meth "Place" "change", .meth "Passing" "change", .meth "DeskPlace" "change", .meth "Floor" "enter", .meth "Floor" "place", .meth "Floor" "rank", .meth "DeskPlace" "rests_at", .meth "Floor" "serve"]
def fa_3 : List He.Fa := [.meth "Floor" "where", .glo "_law_can", .glo "_law_desk", .meth "Floor" "change", .meth "DeskPlace" "served", .glo "_law_changed", .meth "Floor" "come", .meth "Place" "moves", .meth "Passing" "moves", .meth "DeskPlace" "moves", .meth "DeskPlace" "first", .meth "Floor" "move", .glo "_law_moved", .glo "place_of", .meth "Place" "can", .meth "Passing" "can"]
def fa_4 : List He.Fa := [.meth "DeskPlace" "can", .meth "Floor" "can", .glo "_law_all_right", .glo "_law_came", .glo "law", .free "any", .free "bool", .free "isinstance", .free "len", .free "list", .free "max", .free "range", .free "tuple"]
def fa : List He.Fa := fa_0 ++ fa_1 ++ fa_2 ++ fa_3 ++ fa_4
def fn_0 : List He.DefD := [dDef "Place" "Place.__init__" (some "__init__") "__init__" (inClass (top 2) 0), dDef "Visitor" "Visitor.__init__" (some "__init__") "__init__" (inClass (top 13) 0), dDef "Passing" "Passing.__init__" (some "__init__") "__init__" (inClass (top 3) 0), dDef "DeskPlace" "DeskPlace.__init__" (some "__init__") "__init__" (inClass (top 5) 0), dDef "Floor" "Floor.__init__" (some "__init__") "__init__" (inClass (top 14) 0), dDef "_law_ahead" "_law_ahead" none "_law_ahead" (top 21), dDef "_law_cell_at" "_law_cell_at" none "_law_cell_at" (top 16), dDef "_law_mixed" "_law_mixed" none "_law_mixed" (top 17), dDef "_law_names" "_law_names" none "_law_names" (top 18), dDef "Floor" "Floor.at" (some "at") "at" (inClass (top 14) 12), dDef "Place" "Place.change" (some "change") "change" (inClass (top 2) 4), dDef "Passing" "Place.change" (some "change") "change" (inClass (top 2) 4), dDef "DeskPlace" "DeskPlace.change" (some "change") "change" (inClass (top 5) 7), dDef "Floor" "Floor.enter" (some "enter") "enter" (inClass (top 14) 2), dDef "Floor" "Floor.place" (some "place") "place" (inClass (top 14) 6), dDef "Floor" "Floor.rank" (some "rank") "rank" (inClass (top 14) 11)]
def fn_1 : List He.DefD := [dDef "DeskPlace" "DeskPlace.rests_at" (some "rests_at") "rests_at" (inClass (top 5) 2), dDef "Floor" "Floor.serve" (some "serve") "serve" (inClass (top 14) 3), dDef "Floor" "Floor.where" (some "where") "where" (inClass (top 14) 10), dDef "_law_can" "_law_can" none "_law_can" (top 22), dDef "_law_desk" "_law_desk" none "_law_desk" (top 20), dDef "Passing" "Passing.moves" (some "moves") "moves" (inClass (top 3) 2), dDef "Floor" "Floor.change" (some "change") "change" (inClass (top 14) 16), dDef "DeskPlace" "DeskPlace.served" (some "served") "served" (inClass (top 5) 3), dDef "_law_changed" "_law_changed" none "_law_changed" (top 26), dDef "Floor" "Floor.come" (some "come") "come" (inClass (top 14) 1), dDef "Place" "Place.moves" (some "moves") "moves" (inClass (top 2) 2), dDef "DeskPlace" "DeskPlace.moves" (some "moves") "moves" (inClass (top 5) 5), dDef "DeskPlace" "DeskPlace.first" (some "first") "first" (inClass (top 5) 1), dDef "Floor" "Floor.move" (some "move") "move" (inClass (top 14) 8), dDef "_law_moved" "_law_moved" none "_law_moved" (top 24), dDef "place_of" "place_of" none "place_of" (top 11)]
def fn_2 : List He.DefD := [dDef "Place" "Place.can" (some "can") "can" (inClass (top 2) 1), dDef "Passing" "Passing.can" (some "can") "can" (inClass (top 3) 1), dDef "DeskPlace" "DeskPlace.can" (some "can") "can" (inClass (top 5) 4), dDef "Floor" "Floor.can" (some "can") "can" (inClass (top 14) 7), dDef "_law_all_right" "_law_all_right" none "_law_all_right" (top 23), dDef "_law_came" "_law_came" none "_law_came" (top 25), dDef "law" "law" none "law" (top 27)]
def fn : List He.DefD := fn_0 ++ fn_1 ++ fn_2
def bs_0 : List (PySem.W.Frag → Bool) := [hbB "Place" "__init__", hbB "Passing" "__init__", hbB "Passing" "moves", laB "DeskPlace.first" ("DeskPlace", some "first"), ndB ["Place", "Passing", "DeskPlace", "Visitor", "Floor"], ndTB ts, tsB ts]
def bs : List (PySem.W.Frag → Bool) := bs_0
def loose_0 : List Str := ["_wall", "Place", "Passing", "WayPlace", "DeskPlace", "opened_by", "GatePlace", "ForkPlace", "LendPlace", "GivePlace", "place_of", "Visitor", "Floor", "_law_cell_at", "_law_mixed", "_law_names"]
def loose_1 : List Str := ["_law_whole", "_law_desk", "_law_ahead", "_law_can", "_law_all_right", "_law_moved", "_law_came", "_law_changed"]
def loose : List Str := loose_0 ++ loose_1
abbrev R : PySem.W.OpenRow := PySem.W.OpenLaw.row PySem.Challenge.rw_hallclock_k22_desks
abbrev hk : PySem.W.Hook := hookT fa fn bs ts
theorem run (w : World) : HandSHeadRun.RunEq R (PySem.W.view R.prog [27]) hk (obT fa fn bs ts) 9000 loose w := by
  intro os
  kernel_rfl
theorem tx {K : PySem.W.Frag} {h : Heap} {mg : Str → Option Value} (X : K.In h) (G : h.Ns mainGlobals mg) (c : He.SaysD fa fn K) (d : (bs.all fun f => f K) = true) : Tx K mg (He.ga K "Place") (He.ga K "Passing") (He.ga K "DeskPlace") (He.ga K "Visitor") (He.ga K "Floor") (cAd K ("DeskPlace", some "first")) (tAd K ("DeskPlace", some "first")) where
  i_Place := hasC_h X G (fun _ _ _ _ _ _ us hl => match us, hl with | [_, _], _ => rfl) (c.fact 0) (c.fact 1) (c.def_ 0)
  i_Visitor := hasC_h X G (fun _ _ _ _ _ _ us hl => match us, hl with | [_, _, _, _], _ => rfl) (c.fact 2) (c.fact 3) (c.def_ 1)
  i_Passing := hasC_h X G (fun _ _ _ _ _ _ us hl => match us, hl with | [_, _], _ => rfl) (c.fact 4) (c.fact 5) (c.def_ 2)
  i_DeskPlace := hasC_h X G (fun _ _ _ _ _ _ us hl => match us, hl with | [_, _], _ => rfl) (c.fact 6) (c.fact 7) (c.def_ 3)
  i_Floor := hasC_h X G (fun _ _ _ _ _ _ us hl => match us, hl with | [_, _], _ => rfl) (c.fact 8) (c.fact 9) (c.def_ 4)
  c_Place := He.cls_ok (c.fact 10)
  c_Passing := He.cls_ok (c.fact 11)
  c_DeskPlace := He.cls_ok (c.fact 12)
  c_Visitor := He.cls_ok (c.fact 13)
  c_Floor := He.cls_ok (c.fact 14)
  na_DeskPlace_begun := He.noat_ok (c.fact 15)
  na_Place_called := He.noat_ok (c.fact 16)
  na_Passing_called := He.noat_ok (c.fact 17)
  na_DeskPlace_called := He.noat_ok (c.fact 18)
  na_Visitor_called := He.noat_ok (c.fact 19)
  na_Visitor_grade := He.noat_ok (c.fact 20)
  na_Floor_guests := He.noat_ok (c.fact 21)
  na_DeskPlace_hands := He.noat_ok (c.fact 22)
  na_DeskPlace_is_ranked := He.noat_ok (c.fact 23)
  na_Floor_pools := He.noat_ok (c.fact 24)
  na_Floor_ranks := He.noat_ok (c.fact 25)
  na_DeskPlace_rests := He.noat_ok (c.fact 26)
  na_Floor_rows := He.noat_ok (c.fact 27)
  na_Visitor_since := He.noat_ok (c.fact 28)
  na_Floor_spots := He.noat_ok (c.fact 29)
  na_DeskPlace_takes := He.noat_ok (c.fact 30)
  na_Passing_then := He.noat_ok (c.fact 31)
  na_DeskPlace_then := He.noat_ok (c.fact 32)
  na_Visitor_things := He.noat_ok (c.fact 33)
  na_Visitor_until := He.noat_ok (c.fact 34)
  d_law_ahead := has_h X G (fun _ _ _ _ _ _ us hl => match us, hl with | [_, _, _], _ => rfl) (c.fact 35) (c.def_ 5)
  d_law_cell_at := has_h X G (fun _ _ _ _ _ _ us hl => match us, hl with | [_, _], _ => rfl) (c.fact 36) (c.def_ 6)
  d_law_mixed := has_h X G (fun _ _ _ _ _ _ us hl => match us, hl with | [_, _], _ => rfl) (c.fact 37) (c.def_ 7)
  d_law_names := has_h X G (fun _ _ _ _ _ _ us hl => match us, hl with | [_], _ => rfl) (c.fact 38) (c.def_ 8)
  b_Place_init__ := hasB_h X G (fun _ _ _ _ _ _ us hl => match us, hl with | [_, _], _ => rfl) (c.fact 0) (bat d 0) (c.def_ 0)
  m_Floor_at_1 := hasM_h (fun _ _ _ _ _ _ us hl => match us, hl with | [_, _], _ => rfl) (c.fact 39) (c.def_ 9)
  m_Place_change_1 := hasM_h (fun _ _ _ _ _ _ us hl => match us, hl with | [_, _], _ => rfl) (c.fact 40) (c.def_ 10)
  m_Passing_change_1 := hasM_h (fun _ _ _ _ _ _ us hl => match us, hl with | [_, _], _ => rfl) (c.fact 41) (c.def_ 11)
  m_DeskPlace_change_1 := hasM_h (fun _ _ _ _ _ _ us hl => match us, hl with | [_, _], _ => rfl) (c.fact 42) (c.def_ 12)
  m_Floor_enter_3 := hasM_h (fun _ _ _ _ _ _ us hl => match us, hl with | [_, _, _, _], _ => rfl) (c.fact 43) (c.def_ 13)
  m_Floor_place_1 := hasM_h (fun _ _ _ _ _ _ us hl => match us, hl with | [_, _], _ => rfl) (c.fact 44) (c.def_ 14)
  m_Floor_rank_1 := hasM_h (fun _ _ _ _ _ _ us hl => match us, hl with | [_, _], _ => rfl) (c.fact 45) (c.def_ 15)
  m_DeskPlace_rests_at_1 := hasM_h (fun _ _ _ _ _ _ us hl => match us, hl with | [_, _], _ => rfl) (c.fact 46) (c.def_ 16)
  m_Floor_serve_2 := hasM_h (fun _ _ _ _ _ _ us hl => match us, hl with | [_, _, _], _ => rfl) (c.fact 47) (c.def_ 17)
  m_Floor_where_1 := hasM_h (fun _ _ _ _ _ _ us hl => match us, hl with | [_, _], _ => rfl) (c.fact 48) (c.def_ 18)
  d_law_can := has_h X G (fun _ _ _ _ _ _ us hl => match us, hl with | [_, _, _], _ => rfl) (c.fact 49) (c.def_ 19)
  d_law_desk := has_h X G (fun _ _ _ _ _ _ us hl => match us, hl with | [_, _], _ => rfl) (c.fact 50) (c.def_ 20)
  b_Passing_init__ := hasB_h X G (fun _ _ _ _ _ _ us hl => match us, hl with | [_, _], _ => rfl) (c.fact 4) (bat d 1) (c.def_ 2)
  b_Passing_moves := hasB_h X G (fun _ _ _ _ _ _ us hl => match us, hl with | [_, _, _, _], _ => rfl) (c.fact 4) (bat d 2) (c.def_ 21)
  m_Floor_change_1 := hasM_h (fun _ _ _ _ _ _ us hl => match us, hl with | [_, _], _ => rfl) (c.fact 51) (c.def_ 22)
  m_DeskPlace_served_1 := hasM_h (fun _ _ _ _ _ _ us hl => match us, hl with | [_, _], _ => rfl) (c.fact 52) (c.def_ 23)
  d_law_changed := has_h X G (fun _ _ _ _ _ _ us hl => match us, hl with | [_, _, _], _ => rfl) (c.fact 53) (c.def_ 24)
  m_Floor_come_2 := hasM_h (fun _ _ _ _ _ _ us hl => match us, hl with | [_, _, _], _ => rfl) (c.fact 54) (c.def_ 25)
  m_Place_moves_3 := hasM_h (fun _ _ _ _ _ _ us hl => match us, hl with | [_, _, _, _], _ => rfl) (c.fact 55) (c.def_ 26)
  m_Passing_moves_3 := hasM_h (fun _ _ _ _ _ _ us hl => match us, hl with | [_, _, _, _], _ => rfl) (c.fact 56) (c.def_ 21)
  m_DeskPlace_moves_3 := hasM_h (fun _ _ _ _ _ _ us hl => match us, hl with | [_, _, _, _], _ => rfl) (c.fact 57) (c.def_ 27)
  m_DeskPlace_first_1 := hasM_h (fun _ _ _ _ _ _ us hl => match us, hl with | [_, _], _ => rfl) (c.fact 58) (c.def_ 28)
  m_Floor_move_2 := hasM_h (fun _ _ _ _ _ _ us hl => match us, hl with | [_, _, _], _ => rfl) (c.fact 59) (c.def_ 29)
  d_law_moved := has_h X G (fun _ _ _ _ _ _ us hl => match us, hl with | [_, _, _, _], _ => rfl) (c.fact 60) (c.def_ 30)
  d_place_of := has_h X G (fun _ _ _ _ _ _ us hl => match us, hl with | [_], _ => rfl) (c.fact 61) (c.def_ 31)
  m_Place_can_3 := hasM_h (fun _ _ _ _ _ _ us hl => match us, hl with | [_, _, _, _], _ => rfl) (c.fact 62) (c.def_ 32)
  m_Passing_can_3 := hasM_h (fun _ _ _ _ _ _ us hl => match us, hl with | [_, _, _, _], _ => rfl) (c.fact 63) (c.def_ 33)
  m_DeskPlace_can_3 := hasM_h (fun _ _ _ _ _ _ us hl => match us, hl with | [_, _, _, _], _ => rfl) (c.fact 64) (c.def_ 34)
  m_Floor_can_2 := hasM_h (fun _ _ _ _ _ _ us hl => match us, hl with | [_, _, _], _ => rfl) (c.fact 65) (c.def_ 35)
  d_law_all_right := has_h X G (fun _ _ _ _ _ _ us hl => match us, hl with | [_, _, _], _ => rfl) (c.fact 66) (c.def_ 36)
  d_law_came := has_h X G (fun _ _ _ _ _ _ us hl => match us, hl with | [_, _, _, _], _ => rfl) (c.fact 67) (c.def_ 37)
  d_law := has_h X G (fun _ _ _ _ _ _ us hl => match us, hl with | [_], _ => rfl) (c.fact 68) (c.def_ 38)
  lam_DeskPlace_first := lamB_ok (bat d 3)
  n_any := He.free_ok X G (c.fact 69)
  n_bool := He.free_ok X G (c.fact 70)
  n_isinstance := He.free_ok X G (c.fact 71)
  n_len := He.free_ok X G (c.fact 72)
  n_list := He.free_ok X G (c.fact 73)
  n_max := He.free_ok X G (c.fact 74)
  n_range := He.free_ok X G (c.fact 75)
  n_tuple := He.free_ok X G (c.fact 76)
theorem txnd {K : PySem.W.Frag} (d : (bs.all fun f => f K) = true) : ([He.ga K "Place", He.ga K "Passing", He.ga K "DeskPlace", He.ga K "Visitor", He.ga K "Floor"] : List Addr).Nodup := of_decide_eq_true (bat d 4)
theorem txndT {K : PySem.W.Frag} (d : (bs.all fun f => f K) = true) : ([(tAd K ("DeskPlace", some "first"))] : List Addr).Nodup := of_decide_eq_true (bat d 5)
theorem txts {K : PySem.W.Frag} (d : (bs.all fun f => f K) = true) : (ts.all fun p => codeHdB K p) = true := (bat d 6)
end LawEnd
open PySem PySem.W PySem.Calls PyProof.Rows
set_option maxRecDepth 100000 in
set_option maxHeartbeats 0 in
theorem PySem.Challenge.cw_hallclock_k22_desks_holds : PySem.Challenge.rw_hallclock_k22_desks.Holds := by
  w_on; o_law
  refine HandSHeadRun.head_any (r := OpenLaw.row PySem.Challenge.rw_hallclock_k22_desks) (q := view (OpenLaw.row PySem.Challenge.rw_hallclock_k22_desks).prog [27]) (H := LawEnd.hk) (ob := My.obT LawEnd.fa LawEnd.fn LawEnd.bs LawEnd.ts) (M := 9000) (loose := LawEnd.loose) (d := HandSHeadRun.topDef (OpenLaw.row PySem.Challenge.rw_hallclock_k22_desks).prog 27) (kwd := []) My.obT_eq
    (by kernel_rfl) (fun s => by kernel_rfl) LawEnd.run (by kernel_rfl) (by kernel_rfl) (by kernel_rfl) (by rfl) (by first | assumption | decide +kernel) (by decide +kernel) ⟨rfl, rfl, rfl, rfl, rfl, by decide +kernel⟩ ?hw ?hc
  case hw => w_witness2
  case hc =>
    refine LamX.walk_ofTsE (l := PySem.Challenge.rw_hallclock_k22_desks) (n := 63) (k := 8) (x := "_law_script") (CX := fun w => L2N.CX (PySem.Challenge.rw_hallclock_k22_desks).prog w) rfl (by decide) (by kernel_rfl) ⟨rfl, by decide, by decide⟩ ?F (fun w H s e s' h => My.cx_end _ w H s e s' h)
    intro w mg fa h Y G hmg0
    obtain ⟨K, KX, c, d, tb⟩ := Y
    have hmg : mg ("law" : PySem.Str) = some (.ref fa) := by
      have e : (HandSHeadRun.topDef (OpenLaw.row PySem.Challenge.rw_hallclock_k22_desks).prog 27).name = ("law" : PySem.Str) := by kernel_rfl
      rw [← e]
      exact hmg0
    obtain ⟨fd, hb, hF⟩ := Law.fin (P := (PySem.Challenge.rw_hallclock_k22_desks).prog) (w := w) hmg (LawEnd.tx KX G c d) (LawEnd.txnd d) (LawEnd.txndT d)
    obtain ⟨t1, t2, t3⟩ := My.tabCs_ok KX tb (LawEnd.txts d)
    exact ⟨K, KX, fd, My.tabCs LawEnd.ts K, _, t1, t2, t3, hb, fun H a ns hl _ hT hS => ⟨a, ns, rfl, hS, hl, My.tabs_first rfl hT, fun _ => rfl⟩, hF⟩
