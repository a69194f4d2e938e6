import PyProof.Rows.All
import Wide.All
import OpenK.AllK
import Wide.FinOn
import HandS.ForMost
import HandS.ForExc
import HandS.Lambda
import HandS.TryMany
import HandS.ExcField
import HandS.ExcInit
import HandS.IsInst
import HandS.Wide
import HandS.WideBits
import HandS.WideMore
import HandS.Gcd
import HandS.Flow
import HandS.Zip
import HandS.TupMul
import HandS.RevTup
import HandS.Rev
import HandS.ExcOwn
import HandS.TryOnly
import HandS.HeadHook4
import HandS.EndTab
import HandS.ExcIs
import HandS.Defaults
import HandS.TupAny
import PySem.Challenge.RW_everyminor_k78_sums_of_powers_and_tables
set_option Elab.async false
set_option linter.all false
set_option maxRecDepth 100000
set_option maxHeartbeats 4000000
/-! Den, part A: plain data, and how the abstract heap bears it. -/
namespace Dn
open PySem PySem.Spec L2

/-- plain data: what a Python value is worth, without the heap -/
inductive D where
  | non | bl (b : Bool) | int (i : Int) | str (x : Str)
  | tup (l : List D) | lst (l : List D) | scr (l : List D)
  | dic (ps : List (Key × D))
  | fn (i : Nat) | ty (n : String)
  | cel (i : Nat)
  | clo (i : Nat)
  | ins (c : Nat) (fs : List (Str × D))
  | obj (c : Nat) (fs : List (Str × D))
  deriving Inhabited

mutual
def D.py : D → PyData
  | .non => .none | .bl b => .bool b | .int i => .int i | .str x => .str x
  | .tup l => .tuple (D.pyAll l) | .lst l => .list (D.pyAll l)
  | .dic _ => .dict []
  | _ => .none
def D.pyAll : List D → List PyData
  | [] => [] | d :: r => d.py :: D.pyAll r
end
mutual
/-- data of None, bools, ints, texts, tuples, lists alone -/
def D.dat : D → Bool
  | .non => true | .bl _ => true | .int _ => true | .str _ => true
  | .tup l => D.datAll l | .lst l => D.datAll l
  | _ => false
def D.datAll : List D → Bool
  | [] => true | d :: r => d.dat && D.datAll r
end
mutual
/-- .. and empty dicts: what has a text -/
def D.rd : D → Bool
  | .non => true | .bl _ => true | .int _ => true | .str _ => true
  | .tup l => D.rdAll l | .lst l => D.rdAll l
  | .dic l => l.isEmpty
  | _ => false
def D.rdAll : List D → Bool
  | [] => true | d :: r => d.rd && D.rdAll r
end
mutual
/-- the size of its text, roughly -/
def D.nodes : D → Nat
  | .non => 1 | .bl _ => 1 | .int _ => 1 | .str x => 10 * x.length + 3
  | .tup l => 2 + D.nodesAll l | .lst l => 2 + D.nodesAll l
  | _ => 1
def D.nodesAll : List D → Nat
  | [] => 0 | d :: r => d.nodes + 1 + D.nodesAll r
end

/-- a mutable thing's state: a dict with text keys -/
abbrev Cel := List (Str × D)
abbrev Store := List Cel

/-- what frozen objects stand where, and the mutable ones in order -/
structure Gh where
  Fz : Hp
  as : List Addr
  vc : Addr → Option V

def CellV (c : Addr) (v : V) : HO := .ext fun h => ∃ u, RelV v u ∧ h.IsCell c (some u)

/-- addresses of the program's defs, classes -/
structure PAd where
  fnA : List Addr
  exA : List Addr
  /-- the program's lambdas -/
  lams : List (Str × Arguments × Expr × Scope)
  /-- the cells that they close over -/
  cc : List (Str × Addr)
  /-- what stands in these cells, for callees -/
  amb : List (Str × D)
  /-- tables of code objects, and their names -/
  tb : List (Addr × Str)
/-- the table at P: each code object that it tells bears the name q -/
def TabG (g : Gh) (H : Hp) (P : Addr) (q : Str) : Prop := g.Fz P = none ∧ ∃ ps : Array Value, H P = some (.tbl ps) ∧ TriplesOk ps.toList ∧ ∀ (pos : Pos) (cv : Value), codeAmong pos ps.toList = some cv → ∃ c, cv = .ref c ∧ g.Fz c = some (LamX.CodeO c q)
def LamO (a : Addr) (q : Str) (ps : Arguments) (b : Expr) (sc : Scope) (cl : List (Str × Addr)) (c' : Addr) : HO := .ext fun h => ∃ pm ctv, h.get? a = some (PySem.W.kla_obj "<lambda>" q ps b sc cl pm c' ctv)

/-- an error's object at a, of the class at C, the fields ns worth xs (without fields it has no dict) -/
def ExoF (Fz : Hp) (a C : Addr) (ns : List Str) (xs : List V) : Prop := (∃ dx, Fz a = some (exo a C (some dx)) ∧ Fz dx = some (exd dx (ns.zip xs).reverse)) ∨ (ns = [] ∧ Fz a = some (exo a C none))
theorem ExoF.le {F F' : Hp} {a C : Addr} {ns : List Str} {xs : List V} (h : ∀ a o, F a = some o → F' a = some o) (r : ExoF F a C ns xs) : ExoF F' a C ns xs := by
  rcases r with ⟨dx, h1, h2⟩ | ⟨h1, h2⟩
  · exact .inl ⟨dx, h _ _ h1, h _ _ h2⟩
  · exact .inr ⟨h1, h _ _ h2⟩
section
variable (K : PySem.W.Frag) (pa : PAd)
/-- the value v, where g's frozen objects stand, is worth d -/
inductive RepV (g : Gh) : V → D → Prop
  | non : RepV g .non .non
  | bl (b : Bool) : RepV g (.bl b) (.bl b)
  | int (i : Int) : RepV g (.int i) (.int i)
  | str (x : Str) : RepV g (.str x) (.str x)
  | tup {a : Addr} {xs : List V} {ds : List D} : SqT K g.Fz a xs → xs.length = ds.length → (∀ (i : Nat) x d, xs[i]? = some x → ds[i]? = some d → RepV g x d) → RepV g (.ref a) (.tup ds)
  | scr {a : Addr} {xs : List V} {ds : List D} : SqL K g.Fz a xs → xs.length = ds.length → (∀ (i : Nat) x d, xs[i]? = some x → ds[i]? = some d → RepV g x d) → RepV g (.ref a) (.scr ds)
  | lst {a : Addr} {xs : List V} {ds : List D} : g.Fz a = some (.lst xs) → xs.length = ds.length → (∀ (i : Nat) x d, xs[i]? = some x → ds[i]? = some d → RepV g x d) → RepV g (.ref a) (.lst ds)
  | cel {a : Addr} {i : Nat} : g.as[i]? = some a → RepV g (.ref a) (.cel i)
  | dic0 {a : Addr} : g.Fz a = some (.dK []) → RepV g (.ref a) (.dic [])
  | fn {a : Addr} {i : Nat} : pa.fnA[i]? = some a → RepV g (.ref a) (.fn i)
  | ty (n : String) : RepV g (.ty n) (.ty n)
  | exo {a C : Addr} {i : Nat} {ns : List Str} {xs : List V} {ds : List D} : pa.exA[i]? = some C → ExoF g.Fz a C ns xs → ns.length = ds.length → xs.length = ds.length → (∀ (i : Nat) x d, xs[i]? = some x → ds[i]? = some d → RepV g x d) → RepV g (.ref a) (.ins i (ns.zip ds))
  | obj {a C dx : Addr} {i : Nat} {ns : List Str} {xs : List V} {ds : List D} : pa.fnA[i]? = some C → g.Fz a = some (.ins C dx (ns.zip xs)) → ns.length = ds.length → xs.length = ds.length → (∀ (i : Nat) x d, xs[i]? = some x → ds[i]? = some d → RepV g x d) → RepV g (.ref a) (.obj i (ns.zip ds))
  | clo {a c' : Addr} {i : Nat} {q : Str} {ps : Arguments} {b : Expr} {sc : Scope} : pa.lams[i]? = some (q, ps, b, sc) → g.Fz a = some (LamO a q ps b sc (cloFrom pa.cc sc.names []) c') → g.Fz c' = some (LamX.CodeO c' q) → RepV g (.ref a) (.clo i)

def RepVs (g : Gh) (xs : List V) (ds : List D) : Prop := xs.length = ds.length ∧ ∀ (i : Nat) x d, xs[i]? = some x → ds[i]? = some d → RepV K pa g x d
end

structure Le (g g' : Gh) : Prop where
  fz : ∀ a o, g.Fz a = some o → g'.Fz a = some o
  as : g.as <+: g'.as
  vc : ∀ a v, g.vc a = some v → g'.vc a = some v
theorem Le.refl (g : Gh) : Le g g := ⟨fun _ _ h => h, List.prefix_refl _, fun _ _ h => h⟩
theorem Le.trans {g g1 g2 : Gh} (a : Le g g1) (b : Le g1 g2) : Le g g2 := ⟨fun x o h => b.fz x o (a.fz x o h), a.as.trans b.as, fun x o h => b.vc x o (a.vc x o h)⟩

section
variable {K : PySem.W.Frag} {pa : PAd} {g g' : Gh} {H H' H1 H2 : Hp}
theorem rd_le {F F' : Hp} {a : Addr} {u : HO} (h : ∀ a o, F a = some o → F' a = some o) (r : Rd F a u) : Rd F' a u := by
  rcases r with r | ⟨o, r⟩
  · exact .inl (h _ _ r)
  · exact .inr ⟨o, h _ _ r⟩
theorem sqL_le {F F' : Hp} {a : Addr} {xs : List V} (h : ∀ a o, F a = some o → F' a = some o) (r : SqL K F a xs) : SqL K F' a xs := by
  rcases r with r | r
  · exact .inl (rd_le h r)
  · exact .inr r
theorem sqT_le {F F' : Hp} {a : Addr} {xs : List V} (h : ∀ a o, F a = some o → F' a = some o) (r : SqT K F a xs) : SqT K F' a xs := by
  rcases r with r | r
  · exact .inl (rd_le h r)
  · exact .inr r
theorem RepV.le (l : Le g g') {v : V} {d : D} (r : RepV K pa g v d) : RepV K pa g' v d := by
  induction r with
  | non => exact .non
  | bl b => exact .bl b
  | int i => exact .int i
  | str x => exact .str x
  | tup h1 h2 _ ih => exact .tup (sqT_le l.fz h1) h2 ih
  | lst h1 h2 _ ih => exact .lst (l.fz _ _ h1) h2 ih
  | scr h1 h2 _ ih => exact .scr (sqL_le l.fz h1) h2 ih
  | cel h => exact .cel (by obtain ⟨t, e⟩ := l.as; rw [← e]; rw [List.getElem?_append_left (List.getElem?_eq_some_iff.mp h).1]; exact h)
  | dic0 h => exact .dic0 (l.fz _ _ h)
  | fn h => exact .fn h
  | ty n => exact .ty n
  | clo h1 h2 h3 => exact .clo h1 (l.fz _ _ h2) (l.fz _ _ h3)
  | exo h1 h2 h4 h5 _ ih => exact .exo h1 (h2.le l.fz) h4 h5 ih
  | obj h1 h2 h4 h5 _ ih => exact .obj h1 (l.fz _ _ h2) h4 h5 ih
theorem RepVs.le (l : Le g g') {xs : List V} {ds : List D} (r : RepVs K pa g xs ds) : RepVs K pa g' xs ds := ⟨r.1, fun i x d h1 h2 => (r.2 i x d h1 h2).le l⟩
theorem RepVs.nil : RepVs K pa g [] [] := ⟨rfl, fun i x d h => by simp at h⟩
theorem RepVs.cons {x : V} {d : D} {xs : List V} {ds : List D} (r : RepV K pa g x d) (t : RepVs K pa g xs ds) : RepVs K pa g (x :: xs) (d :: ds) := by
  refine ⟨by simp [t.1], fun i y e h1 h2 => ?_⟩
  cases i with
  | zero => simp at h1 h2; subst h1 h2; exact r
  | succ i => exact t.2 i y e (by simpa using h1) (by simpa using h2)
theorem RepVs.cons_inv {x : V} {d : D} {xs : List V} {ds : List D} (r : RepVs K pa g (x :: xs) (d :: ds)) : RepV K pa g x d ∧ RepVs K pa g xs ds :=
  ⟨r.2 0 x d rfl rfl, by have := r.1; simpa using this, fun i y e h1 h2 => r.2 (i + 1) y e (by simpa using h1) (by simpa using h2)⟩
theorem RepVs.inv_cons {d : D} {xs : List V} {ds : List D} (r : RepVs K pa g xs (d :: ds)) : ∃ y ys, xs = y :: ys ∧ RepV K pa g y d ∧ RepVs K pa g ys ds := by
  cases xs with
  | nil => have := r.1; simp at this
  | cons y ys => exact ⟨y, ys, rfl, r.cons_inv⟩
theorem RepVs.inv_nil {xs : List V} (r : RepVs K pa g xs []) : xs = [] := by
  have := r.1; simpa using this
theorem RepVs.get {xs : List V} {ds : List D} {i : Nat} {d : D} (r : RepVs K pa g xs ds) (h : ds[i]? = some d) : ∃ x, xs[i]? = some x ∧ RepV K pa g x d := by
  have hi := (List.getElem?_eq_some_iff.mp h).1
  have hx : i < xs.length := by rw [r.1]; exact hi
  exact ⟨xs[i], by simp [hx], r.2 i _ d (by simp [hx]) h⟩
theorem RepVs.append {xs ys : List V} {ds es : List D} (r : RepVs K pa g xs ds) (t : RepVs K pa g ys es) : RepVs K pa g (xs ++ ys) (ds ++ es) := by
  induction xs generalizing ds with
  | nil =>
    cases ds with
    | nil => simpa using t
    | cons d ds => have := r.1; simp at this
  | cons x xs ih =>
    cases ds with
    | nil => have := r.1; simp at this
    | cons d ds => exact .cons r.cons_inv.1 (ih r.cons_inv.2)
theorem RepV.tup' {a : Addr} {xs : List V} {ds : List D} (h : SqT K g.Fz a xs) (r : RepVs K pa g xs ds) : RepV K pa g (.ref a) (.tup ds) := .tup h r.1 r.2
theorem RepV.lst' {a : Addr} {xs : List V} {ds : List D} (h : g.Fz a = some (.lst xs)) (r : RepVs K pa g xs ds) : RepV K pa g (.ref a) (.lst ds) := .lst h r.1 r.2
theorem RepV.tup_inv {v : V} {ds : List D} (r : RepV K pa g v (.tup ds)) : ∃ a xs, v = .ref a ∧ SqT K g.Fz a xs ∧ RepVs K pa g xs ds := by
  cases r with
  | tup h1 h2 h3 => exact ⟨_, _, rfl, h1, h2, h3⟩
theorem RepV.lst_inv {v : V} {ds : List D} (r : RepV K pa g v (.lst ds)) : ∃ a xs, v = .ref a ∧ g.Fz a = some (.lst xs) ∧ RepVs K pa g xs ds := by
  cases r with
  | lst h1 h2 h3 => exact ⟨_, _, rfl, h1, h2, h3⟩
theorem RepV.scr_inv {v : V} {ds : List D} (r : RepV K pa g v (.scr ds)) : ∃ a xs, v = .ref a ∧ SqL K g.Fz a xs ∧ RepVs K pa g xs ds := by
  cases r with
  | scr h1 h2 h3 => exact ⟨_, _, rfl, h1, h2, h3⟩
theorem RepV.int_inv {v : V} {i : Int} (r : RepV K pa g v (.int i)) : v = .int i := by cases r; rfl
theorem RepV.bl_inv {v : V} {b : Bool} (r : RepV K pa g v (.bl b)) : v = .bl b := by cases r; rfl
theorem RepV.str_inv {v : V} {x : Str} (r : RepV K pa g v (.str x)) : v = .str x := by cases r; rfl
theorem RepV.non_inv {v : V} (r : RepV K pa g v .non) : v = .non := by cases r; rfl
theorem RepV.ty_inv {v : V} {n : String} (r : RepV K pa g v (.ty n)) : v = .ty n := by cases r; rfl
theorem RepV.dic_inv {v : V} {l : List (Key × D)} (r : RepV K pa g v (.dic l)) : ∃ a, v = .ref a ∧ l = [] ∧ g.Fz a = some (.dK []) := by cases r with | dic0 h => exact ⟨_, rfl, rfl, h⟩
theorem RepV.clo_inv {v : V} {i : Nat} (r : RepV K pa g v (.clo i)) : ∃ a c' q ps b sc, v = .ref a ∧ pa.lams[i]? = some (q, ps, b, sc) ∧ g.Fz a = some (LamO a q ps b sc (cloFrom pa.cc sc.names []) c') ∧ g.Fz c' = some (LamX.CodeO c' q) := by cases r with | clo h1 h2 h3 => exact ⟨_, _, _, _, _, _, rfl, h1, h2, h3⟩
theorem RepV.fn_inv {v : V} {i : Nat} (r : RepV K pa g v (.fn i)) : ∃ a, v = .ref a ∧ pa.fnA[i]? = some a := by cases r with | fn h => exact ⟨_, rfl, h⟩
theorem RepV.cel_inv {v : V} {i : Nat} (r : RepV K pa g v (.cel i)) : ∃ a, v = .ref a ∧ g.as[i]? = some a := by cases r with | cel h => exact ⟨_, rfl, h⟩
end

/-! ### the store -/
section
variable (K : PySem.W.Frag) (pa : PAd)
def CelR (g : Gh) (ps : List (Key × V)) (kvs : Cel) : Prop := ps.map (·.1) = kvs.map (fun p => (Sum.inr p.1 : Key)) ∧ RepVs K pa g (ps.map (·.2)) (kvs.map (·.2))
structure StoR (g : Gh) (H : Hp) (st : Store) : Prop where
  len : g.as.length = st.length
  nd : g.as.Nodup
  nz : ∀ a ∈ g.as, g.Fz a = none
  at_ : ∀ (i : Nat) a kvs, g.as[i]? = some a → st[i]? = some kvs → ∃ ps, H a = some (.dK ps) ∧ CelR K pa g ps kvs
  amb : ∀ y d, pa.amb.lookup y = some d → ∃ c v ob, pa.cc.lookup y = some c ∧ g.Fz c = some (.frz ob (CellV c v)) ∧ RepV K pa g v d
  tabs : ∀ p ∈ pa.tb, TabG g H p.1 p.2
  cci : ∀ x y c, pa.cc.lookup x = some c → pa.cc.lookup y = some c → x = y
end
/-- nothing that stands is touched but the mutable ones and the tables of code objects; what is new is new -/
structure Grow (g : Gh) (H : Hp) (g' : Gh) (H' : Hp) : Prop where
  le : Le g g'
  new : ∀ a o, g'.Fz a = some o → g.Fz a = some o ∨ H a = none
  newA : ∀ a ∈ g'.as, a ∈ g.as ∨ H a = none
  keep : ∀ a o, H a = some o → a ∉ g.as → (∀ ps, o ≠ .tbl ps) → H' a = some o
  there : ∀ a o, H a = some o → ∃ o', H' a = some o'
def Sub (g : Gh) (H : Hp) : Prop := ∀ a o, g.Fz a = some o → H a = some o
theorem Grow.refl (g : Gh) (H : Hp) : Grow g H g H := ⟨Le.refl g, fun _ _ h => .inl h, fun _ h => .inl h, fun _ _ h _ _ => h, fun _ o h => ⟨o, h⟩⟩
theorem Grow.trans {g g1 g2 : Gh} {H H1 H2 : Hp} (a : Grow g H g1 H1) (b : Grow g1 H1 g2 H2) : Grow g H g2 H2 where
  le := a.le.trans b.le
  new := fun x o h => by
    rcases b.new x o h with h | h
    · exact a.new x o h
    · cases e : H x with
      | none => exact .inr rfl
      | some u => obtain ⟨o', q⟩ := a.there x u e; rw [h] at q; cases q
  newA := fun x h => by
    rcases b.newA x h with h | h
    · exact a.newA x h
    · cases e : H x with
      | none => exact .inr rfl
      | some u => obtain ⟨o', q⟩ := a.there x u e; rw [h] at q; cases q
  keep := fun x o h n t => by
    refine b.keep x o (a.keep x o h n t) (fun z => ?_) t
    rcases a.newA x z with q | q
    · exact n q
    · rw [h] at q; cases q
  there := fun x o h => by
    obtain ⟨o', q⟩ := a.there x o h
    exact b.there x o' q

/-! ### results, slots -/
/-- a value; a new list that nothing else holds -/
inductive RV where
  | val (d : D) | own (ds : List D)
  deriving Inhabited
def RV.d : RV → D
  | .val d => d | .own ds => .lst ds
@[simp] theorem RV.d_val (d : D) : (RV.val d).d = d := rfl
@[simp] theorem RV.d_own (ds : List D) : (RV.own ds).d = .lst ds := rfl
inductive Res (α : Type) where
  | ok (a : α) (st : Store) | rz (i : Nat) (fs : List D) (st : Store) | stuck
def M (α : Type) : Type := Store → Res α
def M.pure {α : Type} (a : α) : M α := fun st => .ok a st
def M.bind {α β : Type} (f : M α) (h : α → M β) : M β := fun st => match f st with
  | .ok a st' => h a st'
  | .rz i fs st' => .rz i fs st'
  | .stuck => .stuck
instance : Monad M where
  pure := M.pure
  bind := M.bind
def stuck {α : Type} : M α := fun _ => .stuck
def raise {α : Type} (i : Nat) (fs : List D) : M α := fun st => .rz i fs st
inductive Slot where
  | un | val (d : D) | own (ds : List D) | exc (i : Nat) (fs : List D)
  deriving Inhabited
abbrev Ev := List Slot

/-- the frame: the written part, the addresses, the fields of the errors, the entry, what is wanted of an error, the error in hand -/
structure Fm where
  K : PySem.W.Frag
  pa : PAd
  exF : List (List Str)
  g0 : Gh
  H0 : Hp
  W : WX
  ex : Option (Addr × Value × Option Addr)

def ExcR (F : Fm) (g : Gh) (cls : Value) (dx : Option Addr) (i : Nat) (fs : List D) : Prop :=
  ∃ C d vs names, F.pa.exA[i]? = some C ∧ cls = .ref C ∧ dx = some d ∧ g.Fz d = some (.xd (names.zip vs).reverse) ∧ F.exF[i]? = some names ∧ vs.length = names.length ∧ RepVs F.K F.pa g vs fs

def SlotR (F : Fm) (g : Gh) (H : Hp) (o : Option V) : Slot → Prop
  | .un => True
  | .val d => ∃ v, o = some v ∧ RepV F.K F.pa g v d
  | .own ds => ∃ a xs, o = some (.ref a) ∧ H a = some (.lst xs) ∧ RepVs F.K F.pa g xs ds ∧ g.Fz a = none ∧ a ∉ g.as ∧ F.H0 a = none
  | .exc i fs => ∃ a cls dx, F.ex = some (a, cls, dx) ∧ o = some (.ref a) ∧ ExcR F g cls dx i fs

structure SRel (F : Fm) (g : Gh) (H : Hp) (σ : St) (ρ : Ev) (st : Store) : Prop where
  gr : Grow F.g0 F.H0 g H
  sub : Sub g H
  sto : StoR F.K F.pa g H st
  len : σ.length = ρ.length
  sl : ∀ (i : Nat) s, ρ[i]? = some s → SlotR F g H (σ[i]?.join) s
  sep : ∀ (i j : Nat) a ds es, i ≠ j → ρ[i]? = some (.own ds) → ρ[j]? = some (.own es) → σ[i]?.join = some (.ref a) → σ[j]?.join = some (.ref a) → False

/-- what a result's value is at -/
def RVR (K : PySem.W.Frag) (pa : PAd) (Hb : Hp) (g : Gh) (H : Hp) (v : V) : RV → Prop
  | .val d => RepV K pa g v d
  | .own ds => ∃ a xs, v = .ref a ∧ H a = some (.lst xs) ∧ RepVs K pa g xs ds ∧ g.Fz a = none ∧ a ∉ g.as ∧ Hb a = none

section
variable {F : Fm} {g g' : Gh} {H H' : Hp} {σ : St} {ρ : Ev} {st st' : Store}
theorem ExcR.le (l : Le g g') {cls : Value} {dx : Option Addr} {i : Nat} {fs : List D} (h : ExcR F g cls dx i fs) : ExcR F g' cls dx i fs := by
  obtain ⟨C, d, ps, names, h1, h2, h3, h4, h5, h6, h7⟩ := h
  exact ⟨C, d, ps, names, h1, h2, h3, l.fz _ _ h4, h5, h6, h7.le l⟩
theorem SlotR.grow (gr : Grow g H g' H') {o : Option V} {s : Slot} (h : SlotR F g H o s) : SlotR F g' H' o s := by
  cases s with
  | un => trivial
  | val d => obtain ⟨v, e, r⟩ := h; exact ⟨v, e, r.le gr.le⟩
  | own ds =>
    obtain ⟨a, xs, e, h1, r, h2, h3, h4⟩ := h
    refine ⟨a, xs, e, gr.keep a _ h1 h3 (fun ps z => by cases z), r.le gr.le, ?_, fun z => ?_, h4⟩
    · cases q : g'.Fz a with
      | none => rfl
      | some u =>
        rcases gr.new a u q with z | z
        · rw [h2] at z; cases z
        · rw [h1] at z; cases z
    · rcases gr.newA a z with q | q
      · exact h3 q
      · rw [h1] at q; cases q
  | exc i fs => obtain ⟨a, cls, dx, h1, h2, h3⟩ := h; exact ⟨a, cls, dx, h1, h2, h3.le gr.le⟩
theorem SRel.grow (R : SRel F g H σ ρ st) (gr : Grow g H g' H') (sb : Sub g' H') (so : StoR F.K F.pa g' H' st') : SRel F g' H' σ ρ st' :=
  ⟨R.gr.trans gr, sb, so, R.len, fun i s h => (R.sl i s h).grow gr, R.sep⟩
theorem sub_rd {a : Addr} {u : HO} (s : Sub g H) (r : Rd g.Fz a u) : Rd H a u := rd_le s r
theorem Sub.sqT {K : PySem.W.Frag} {a : Addr} {xs : List V} (s : Sub g H) (h : SqT K g.Fz a xs) : SqT K H a xs := sqT_le s h
theorem Sub.sqL {K : PySem.W.Frag} {a : Addr} {xs : List V} (s : Sub g H) (h : SqL K g.Fz a xs) : SqL K H a xs := sqL_le s h
theorem Sub.none (s : Sub g H) {p : Addr} (hp : H p = none) : g.Fz p = none := by
  cases q : g.Fz p with
  | none => rfl
  | some u => rw [s p u q] at hp; cases hp
end

/-! ### a new object is frozen -/
section
variable {F : Fm} {K : PySem.W.Frag} {pa : PAd} {g : Gh} {H : Hp} {st : Store} {p : Addr} {o : HO}
def Gh.put (g : Gh) (p : Addr) (o : HO) : Gh := ⟨upd g.Fz p o, g.as, g.vc⟩
theorem le_put (hp : g.Fz p = none) : Le g (g.put p o) := ⟨fun a u h => by show upd g.Fz p o a = _; rw [upd_ne (ne_of_none h hp)]; exact h, List.prefix_refl _, fun _ _ h => h⟩
/-- lists, dicts may change -/
def Calm (H H' : Hp) : Prop := ∀ b o, H b = some o → (∀ xs, o ≠ .lst xs) → (∀ ps, o ≠ .dK ps) → H' b = some o
theorem calm_tabs {H H' : Hp} {P : Addr} {q : Str} (t : TabG g H P q) (c : Calm H H') : TabG g H' P q := by
  obtain ⟨h0, ps, h1, h2, h3⟩ := t
  exact ⟨h0, ps, c _ _ h1 (fun _ z => by cases z) (fun _ z => by cases z), h2, h3⟩
theorem TabG.le {g' : Gh} {H : Hp} {P : Addr} {q : Str} (t : TabG g H P q) (l : Le g g') (hz : g'.Fz P = none) : TabG g' H P q := by
  obtain ⟨h0, ps, h1, h2, h3⟩ := t
  exact ⟨hz, ps, h1, h2, fun pos cv hc => by
    obtain ⟨c, e1, e2⟩ := h3 pos cv hc
    exact ⟨c, e1, l.fz _ _ e2⟩⟩
theorem calm_new {H : Hp} {p : Addr} {o : HO} (hp : H p = none) : Calm H (upd H p o) := fun b u h _ _ => by rw [upd_ne (ne_of_none h hp)]; exact h
theorem calm_lst {H : Hp} {p : Addr} {o : HO} {xs : List V} (hp : H p = some (.lst xs)) : Calm H (upd H p o) := fun b u h n _ => by
  rw [upd_ne fun e => ?_]
  · exact h
  · rw [e, hp] at h; cases h; exact n _ rfl
theorem calm_dk {H : Hp} {p : Addr} {o : HO} {xs : List (Key × V)} (hp : H p = some (.dK xs)) : Calm H (upd H p o) := fun b u h _ n => by
  rw [upd_ne fun e => ?_]
  · exact h
  · rw [e, hp] at h; cases h; exact n _ rfl
theorem StoR.keepAll {H' : Hp} (so : StoR K pa g H st) (cm : Calm H H') (k : ∀ a ∈ g.as, H' a = H a) : StoR K pa g H' st :=
  ⟨so.len, so.nd, so.nz, fun i a kvs h1 h2 => by
    obtain ⟨ps, e, r⟩ := so.at_ i a kvs h1 h2
    exact ⟨ps, by rw [k a (List.mem_of_getElem? h1)]; exact e, r⟩, so.amb, fun p hp => calm_tabs (so.tabs p hp) cm, so.cci⟩
theorem CelR.le {g' : Gh} (l : Le g g') {ps : List (Key × V)} {kvs : Cel} (h : CelR K pa g ps kvs) : CelR K pa g' ps kvs := ⟨h.1, h.2.le l⟩
theorem StoR.le {g' : Gh} (so : StoR K pa g H st) (l : Le g g') (e : g'.as = g.as) (nz : ∀ a ∈ g.as, g'.Fz a = none) (tz : ∀ p ∈ pa.tb, g'.Fz p.1 = none) : StoR K pa g' H st :=
  ⟨by rw [e]; exact so.len, by rw [e]; exact so.nd, fun a h => nz a (by rw [← e]; exact h), fun i a kvs h1 h2 => by
    rw [e] at h1
    obtain ⟨ps, q, r⟩ := so.at_ i a kvs h1 h2
    exact ⟨ps, q, r.le l⟩, fun y d h => by
    obtain ⟨c, v, ob, h1, h2, h3⟩ := so.amb y d h
    exact ⟨c, v, ob, h1, l.fz _ _ h2, h3.le l⟩, fun p hp => (so.tabs p hp).le l (tz p hp), so.cci⟩
theorem StoR.notNew (so : StoR K pa g H st) (hp : H p = none) : p ∉ g.as := fun h => by
  obtain ⟨i, hi, e⟩ := List.mem_iff_getElem.mp h
  have hi2 : i < st.length := by rw [← so.len]; exact hi
  obtain ⟨ps, q, _⟩ := so.at_ i p (st[i]) (by rw [← e]; simp [hi]) (by simp [hi2])
  rw [hp] at q; cases q
/-- laid and frozen -/
theorem grow_put (sb : Sub g H) (hp : H p = none) : Grow g H (g.put p o) (upd H p o) where
  le := le_put (sb.none hp)
  new := fun a u h => by
    by_cases e : a = p
    · subst e; exact .inr hp
    · rw [show (g.put p o).Fz a = g.Fz a from upd_ne e] at h; exact .inl h
  newA := fun a h => .inl h
  keep := fun a u h _ _ => by rw [upd_ne (ne_of_none h hp)]; exact h
  there := fun a u h => ⟨u, by rw [upd_ne (ne_of_none h hp)]; exact h⟩
theorem sub_put (s : Sub g H) : Sub (g.put p o) (upd H p o) := fun a u h => by
  by_cases e : a = p
  · subst e
    rw [show (g.put a o).Fz a = some o from upd_same] at h; cases h
    exact upd_same
  · rw [show (g.put p o).Fz a = g.Fz a from upd_ne e] at h
    rw [upd_ne e]
    exact s a u h
theorem sto_put (so : StoR K pa g H st) (sb : Sub g H) (hp : H p = none) : StoR K pa (g.put p o) (upd H p o) st := by
  have np := so.notNew hp
  refine ((so.keepAll (H' := upd H p o) (calm_new hp) fun a ha => upd_ne (fun e => np (by rw [← e]; exact ha)))).le (le_put (sb.none hp)) rfl (fun a ha => ?_) fun q hq => ?_
  · show upd g.Fz p o a = none
    rw [upd_ne (fun e => np (by rw [← e]; exact ha))]
    exact so.nz a ha
  · obtain ⟨h0, ps, h1, _⟩ := so.tabs q hq
    show upd g.Fz p o q.1 = none
    rw [upd_ne (ne_of_none h1 hp)]
    exact h0
/-- a list that stands is frozen -/
theorem grow_frz (hf : g.Fz p = none) (Hb : Hp) (hb : Hb p = none) {gb : Gh} (gr : Grow gb Hb g H) : Grow gb Hb (g.put p o) H where
  le := gr.le.trans (le_put hf)
  new := fun a u h => by
    by_cases e : a = p
    · subst e; exact .inr hb
    · rw [show (g.put p o).Fz a = g.Fz a from upd_ne e] at h; exact gr.new a u h
  newA := gr.newA
  keep := gr.keep
  there := gr.there
theorem sub_frz (s : Sub g H) (hp : H p = some o) : Sub (g.put p o) H := fun a u h => by
  by_cases e : a = p
  · subst e
    rw [show (g.put a o).Fz a = some o from upd_same] at h; cases h
    exact hp
  · rw [show (g.put p o).Fz a = g.Fz a from upd_ne e] at h
    exact s a u h
theorem sto_frz {xs : List V} (so : StoR K pa g H st) (hf : g.Fz p = none) (np : p ∉ g.as) (hH : H p = some (.lst xs)) : StoR K pa (g.put p o) H st :=
  so.le (le_put hf) rfl (fun a ha => by
    show upd g.Fz p o a = none
    rw [upd_ne (fun e => np (by rw [← e]; exact ha))]
    exact so.nz a ha) fun q hq => by
    obtain ⟨h0, ps, h1, _⟩ := so.tabs q hq
    show upd g.Fz p o q.1 = none
    rw [upd_ne (fun e => by rw [e, hH] at h1; cases h1)]
    exact h0
theorem sqL_put {xs : List V} : (g.put p (.lst xs)).Fz p = some (.lst xs) := upd_same
theorem sqT_put {xs : List V} : SqT K (g.put p (.tup xs)).Fz p xs := .inl (.inl upd_same)
end
end Dn

set_option Elab.async false
set_option linter.all false
set_option maxRecDepth 100000
set_option maxHeartbeats 4000000
/-! Den, part B: expressions. -/
namespace Dn
open PySem PySem.Spec L2

theorem run_bind {α β : Type} (f : M α) (h : α → M β) (st : Store) : (f >>= h) st = match f st with | .ok a st' => h a st' | .rz i fs st' => .rz i fs st' | .stuck => .stuck := rfl
theorem run_pure {α : Type} (a : α) (st : Store) : (Pure.pure a : M α) st = .ok a st := rfl
def Post (F : Fm) {α : Type} (g : Gh) (H : Hp) (σ : St) (r : Res α) (k : α → Gh → Hp → Store → Prop) : Prop :=
  match r with
  | .ok a st' => ∀ g' H', Grow g H g' H' → Sub g' H' → StoR F.K F.pa g' H' st' → k a g' H' st'
  | .rz i fs st' => ∀ g' H' cls dx, Grow g H g' H' → Sub g' H' → StoR F.K F.pa g' H' st' → ExcR F g' cls dx i fs → F.W cls dx σ H'
  | .stuck => False
theorem Post.grow {F : Fm} {α : Type} {g g' : Gh} {H H' : Hp} {σ : St} {r : Res α} {k : α → Gh → Hp → Store → Prop} (gr : Grow g H g' H') (h : Post F g H σ r k) : Post F g' H' σ r k := by
  cases r with
  | ok a st' => exact fun g1 H1 g2 => h g1 H1 (gr.trans g2)
  | rz i fs st' => exact fun g1 H1 cls dx g2 => h g1 H1 cls dx (gr.trans g2)
  | stuck => exact h
theorem Post.imp {F : Fm} {α : Type} {g : Gh} {H : Hp} {σ : St} {r : Res α} {k k' : α → Gh → Hp → Store → Prop} (h : Post F g H σ r k) (hk : ∀ a g' H' st', Grow g H g' H' → Sub g' H' → StoR F.K F.pa g' H' st' → k a g' H' st' → k' a g' H' st') : Post F g H σ r k' := by
  cases r with
  | ok a st' => exact fun g1 H1 g2 s2 o2 => hk _ _ _ _ g2 s2 o2 (h g1 H1 g2 s2 o2)
  | rz i fs st' => exact h
  | stuck => exact h
theorem Post.bind {F : Fm} {α β : Type} {g : Gh} {H : Hp} {σ : St} {f : M α} {h : α → M β} {st : Store} {k : β → Gh → Hp → Store → Prop} (p : Post F g H σ ((f >>= h) st) k) :
    Post F g H σ (f st) (fun a g1 H1 st1 => Post F g1 H1 σ (h a st1) k) := by
  have e : (f >>= h) st = match f st with | .ok a st' => h a st' | .rz i fs st' => .rz i fs st' | .stuck => .stuck := rfl
  rw [e] at p
  cases q : f st with
  | ok a st' => rw [q] at p; exact fun g1 H1 g2 _ _ => p.grow g2
  | rz i fs st' => rw [q] at p; exact p
  | stuck => rw [q] at p; exact p
theorem Post.pure {F : Fm} {α : Type} {g : Gh} {H : Hp} {σ : St} {a : α} {st : Store} {k : α → Gh → Hp → Store → Prop} (p : Post F g H σ ((Pure.pure a : M α) st) k) (sb : Sub g H) (so : StoR F.K F.pa g H st) : k a g H st :=
  p g H (Grow.refl g H) sb so

/-- a value that may be a list which the frame holds -/
def RepQ (K : PySem.W.Frag) (pa : PAd) (g : Gh) (H : Hp) (v : V) (d : D) : Prop :=
  RepV K pa g v d ∨ ∃ a xs ds, v = .ref a ∧ d = .lst ds ∧ H a = some (.lst xs) ∧ a ∉ g.as ∧ RepVs K pa g xs ds
theorem RepQ.grow {K : PySem.W.Frag} {pa : PAd} {g g' : Gh} {H H' : Hp} {v : V} {d : D} (gr : Grow g H g' H') (h : RepQ K pa g H v d) : RepQ K pa g' H' v d := by
  rcases h with h | ⟨a, xs, ds, e1, e2, e3, e4, e5⟩
  · exact .inl (h.le gr.le)
  · refine .inr ⟨a, xs, ds, e1, e2, gr.keep a _ e3 e4 (fun ps z => by cases z), fun z => ?_, e5.le gr.le⟩
    rcases gr.newA a z with q | q
    · exact e4 q
    · rw [e3] at q; cases q
theorem RepQ.lst_inv {K : PySem.W.Frag} {pa : PAd} {g : Gh} {H : Hp} {v : V} {ds : List D} (sb : Sub g H) (h : RepQ K pa g H v (.lst ds)) : ∃ a xs, v = .ref a ∧ H a = some (.lst xs) ∧ RepVs K pa g xs ds := by
  rcases h with h | ⟨a, xs, es, e1, e2, e3, e4, e5⟩
  · obtain ⟨a, xs, e, q, r⟩ := h.lst_inv
    exact ⟨a, xs, e, sb _ _ q, r⟩
  · cases e2
    exact ⟨a, xs, e1, e3, e5⟩
theorem RepQ.notlst {K : PySem.W.Frag} {pa : PAd} {g : Gh} {H : Hp} {v : V} {d : D} (h : RepQ K pa g H v d) (n : ∀ ds, d ≠ .lst ds) : RepV K pa g v d := by
  rcases h with h | ⟨a, xs, es, e1, e2, e3, e4, e5⟩
  · exact h
  · exact (n _ e2).elim

section
variable (F : Fm)
def tR (f : Ev → M RV) : TE := fun σ H Q => ∃ g ρ st, SRel F g H σ ρ st ∧ Post F g H σ (f ρ st) fun r g' H' _ => ∀ v, RVR F.K F.pa H g' H' v r → Q v H'
def tE (f : Ev → M D) : TE := fun σ H Q => ∃ g ρ st, SRel F g H σ ρ st ∧ Post F g H σ (f ρ st) fun d g' H' _ => ∀ v, RepV F.K F.pa g' v d → Q v H'
def tQ (f : Ev → M D) : TE := fun σ H Q => ∃ g ρ st, SRel F g H σ ρ st ∧ Post F g H σ (f ρ st) fun d g' H' _ => ∀ v, RepQ F.K F.pa g' H' v d → Q v H'
def tT (f : Ev → M Bool) : TT := fun σ H Q => ∃ g ρ st, SRel F g H σ ρ st ∧ Post F g H σ (f ρ st) fun b g' H' _ => Q b H'
def tA (f : Ev → M (List D)) : TA := fun σ H Q => ∃ g ρ st, SRel F g H σ ρ st ∧ Post F g H σ (f ρ st) fun ds g' H' _ => ∀ vs, RepVs F.K F.pa g' vs ds → Q vs H'
end
def asD (f : Ev → M RV) : Ev → M D := fun ρ => do let r ← f ρ; pure r.d
def asR (f : Ev → M D) : Ev → M RV := fun ρ => do let d ← f ρ; pure (.val d)

theorem PE.mono {X : Cx} {e : Expr} {t t' : TE} (h : ∀ σ H Q, t' σ H Q → t σ H Q) (p : PE X e t) : PE X e t' := ⟨fun pins s σ H Q I q => p.run pins s σ H Q I (h σ H Q q)⟩
theorem PT.mono {X : Cx} {e : Expr} {t t' : TT} (h : ∀ σ H Q, t' σ H Q → t σ H Q) (p : PT X e t) : PT X e t' := ⟨fun pins s σ H Q I q => p.run pins s σ H Q I (h σ H Q q)⟩
theorem PW.mono {X : Cx} {e : Expr} {t t' : TT} (h : ∀ σ H Q, t' σ H Q → t σ H Q) (p : PW X e t) : PW X e t' := ⟨fun wh pins s σ H Q I q => p.run wh pins s σ H Q I (h σ H Q q)⟩
theorem PA.mono {X : Cx} {es : List Expr} {t t' : TA} (h : ∀ σ H Q, t' σ H Q → t σ H Q) (p : PA X es t) : PA X es t' := ⟨fun pos pins s σ H Q I q => p.run pos pins s σ H Q I (h σ H Q q)⟩

section
variable {F : Fm} {X : Cx} {e a b : Expr} {es : List Expr}
/-- a consumer behind an expression: what is needed of it -/
theorem tE.use {α : Type} {f : Ev → M D} {h : D → M α} {σ : St} {H : Hp} {g : Gh} {ρ : Ev} {st : Store} {k : α → Gh → Hp → Store → Prop} {Q : VK} (R : SRel F g H σ ρ st) (p : Post F g H σ ((f ρ >>= h) st) k)
    (c : ∀ d g' H' st' v, Grow g H g' H' → SRel F g' H' σ ρ st' → RepV F.K F.pa g' v d → Post F g' H' σ (h d st') k → Q v H') : tE F f σ H Q := by
  refine ⟨g, ρ, st, R, p.bind.imp fun d g' H' st' gr sb so q v rv => c d g' H' st' v gr (R.grow gr sb so) rv q⟩
theorem tQ.use {α : Type} {f : Ev → M D} {h : D → M α} {σ : St} {H : Hp} {g : Gh} {ρ : Ev} {st : Store} {k : α → Gh → Hp → Store → Prop} {Q : VK} (R : SRel F g H σ ρ st) (p : Post F g H σ ((f ρ >>= h) st) k)
    (c : ∀ d g' H' st' v, Grow g H g' H' → SRel F g' H' σ ρ st' → RepQ F.K F.pa g' H' v d → Post F g' H' σ (h d st') k → Q v H') : tQ F f σ H Q := by
  refine ⟨g, ρ, st, R, p.bind.imp fun d g' H' st' gr sb so q v rv => c d g' H' st' v gr (R.grow gr sb so) rv q⟩
theorem tA.use {α : Type} {f : Ev → M (List D)} {h : List D → M α} {σ : St} {H : Hp} {g : Gh} {ρ : Ev} {st : Store} {k : α → Gh → Hp → Store → Prop} {Q : List V → Hp → Prop} (R : SRel F g H σ ρ st) (p : Post F g H σ ((f ρ >>= h) st) k)
    (c : ∀ d g' H' st' v, Grow g H g' H' → SRel F g' H' σ ρ st' → RepVs F.K F.pa g' v d → Post F g' H' σ (h d st') k → Q v H') : tA F f σ H Q := by
  refine ⟨g, ρ, st, R, p.bind.imp fun d g' H' st' gr sb so q v rv => c d g' H' st' v gr (R.grow gr sb so) rv q⟩
theorem tT.use {α : Type} {f : Ev → M Bool} {h : Bool → M α} {σ : St} {H : Hp} {g : Gh} {ρ : Ev} {st : Store} {k : α → Gh → Hp → Store → Prop} {Q : Bool → Hp → Prop} (R : SRel F g H σ ρ st) (p : Post F g H σ ((f ρ >>= h) st) k)
    (c : ∀ d g' H' st', Grow g H g' H' → SRel F g' H' σ ρ st' → Post F g' H' σ (h d st') k → Q d H') : tT F f σ H Q := by
  refine ⟨g, ρ, st, R, p.bind.imp fun d g' H' st' gr sb so q => c d g' H' st' gr (R.grow gr sb so) q⟩

/-- a new list is frozen where a value is wanted -/
theorem pe_frz {f : Ev → M RV} (p : PE X e (tR F f)) : PE X e (tE F (asD f)) := by
  refine PE.mono (fun σ H Q ⟨g, ρ, st, R, q⟩ => ⟨g, ρ, st, R, ?_⟩) p
  unfold asD at q
  rw [run_bind] at q
  cases z : f ρ st with
  | rz i fs st' => rw [z] at q; exact q
  | stuck => rw [z] at q; exact q
  | ok r st' =>
    rw [z] at q
    intro g' H' gr sb so v rv
    have q : Post F g H σ (.ok r.d st') _ := q
    cases r with
    | val d => exact q g' H' gr sb so v rv
    | own ds =>
      obtain ⟨a, xs, rfl, h1, h2, h3, h4, h5⟩ := rv
      exact q (g'.put a (.lst xs)) H' (grow_frz h3 H h5 gr) (sub_frz sb h1) (sto_frz so h3 h4 h1) _ (.lst' sqL_put (h2.le (le_put h3)))
theorem pe_R {f : Ev → M D} (p : PE X e (tE F f)) : PE X e (tR F (asR f)) := by
  refine PE.mono (fun σ H Q ⟨g, ρ, st, R, q⟩ => ⟨g, ρ, st, R, ?_⟩) p
  exact q.bind.imp fun d g' H' st' gr sb so q v rv => q.pure sb so v rv
theorem pe_Q {f : Ev → M D} (p : PE X e (tE F f)) : PE X e (tQ F f) := by
  refine PE.mono (fun σ H Q ⟨g, ρ, st, R, q⟩ => ⟨g, ρ, st, R, ?_⟩) p
  exact q.imp fun d g' H' st' gr sb so q v rv => q v (.inl rv)

/-! ### names, constants -/
def vr (i : Nat) : Ev → M D := fun ρ => match ρ[i]? with | some (.val d) => pure d | _ => stuck
def vq (i : Nat) : Ev → M D := fun ρ => match ρ[i]? with | some (.val d) => pure d | some (.own ds) => pure (.lst ds) | _ => stuck
def kk (d : D) : Ev → M D := fun _ => pure d
theorem post_stuck {α : Type} {g : Gh} {H : Hp} {σ : L2.St} {st : Store} {k : α → Gh → Hp → Store → Prop} (h : Post F g H σ ((stuck : M α) st) k) : False := h
theorem pe_vr {i : Nat} {x : Str} {pos : Pos} (hN : X.N[i]? = some x) (hv : Vis X.env.scope x) (hd : (x == ("__debug__" : Str)) = false) (hcd : (x == ("__classdict__" : Str)) = false) : PE X (.Name x pos) (tE F (vr i)) := by
  refine PE.mono (fun σ H Q ⟨g, ρ, st, R, q⟩ => ?_) (pe_var hN hv hd hcd)
  have hs := R.sl i
  unfold vr at q
  cases e : ρ[i]? with
  | none => simp only [e] at q; exact q.elim
  | some s =>
    have hs := hs s e
    cases s with
    | val d =>
      simp only [e] at q
      obtain ⟨v, e1, r⟩ := hs
      refine ⟨v, ?_, (q.pure R.sub R.sto) v r⟩
      cases z : σ[i]? with
      | none => rw [z] at e1; cases e1
      | some w => rw [z] at e1; have : w = some v := e1; rw [this]
    | un => simp only [e] at q; exact q.elim
    | own ds => simp only [e] at q; exact q.elim
    | exc i fs => simp only [e] at q; exact q.elim
theorem pe_vq {i : Nat} {x : Str} {pos : Pos} (hN : X.N[i]? = some x) (hv : Vis X.env.scope x) (hd : (x == ("__debug__" : Str)) = false) (hcd : (x == ("__classdict__" : Str)) = false) : PE X (.Name x pos) (tQ F (vq i)) := by
  refine PE.mono (fun σ H Q ⟨g, ρ, st, R, q⟩ => ?_) (pe_var hN hv hd hcd)
  have hs := R.sl i
  unfold vq at q
  have jn : ∀ {v : V}, σ[i]?.join = some v → σ[i]? = some (some v) := fun {v} e1 => by
    cases z : σ[i]? with
    | none => rw [z] at e1; cases e1
    | some w => rw [z] at e1; have : w = some v := e1; rw [this]
  cases e : ρ[i]? with
  | none => simp only [e] at q; exact q.elim
  | some s =>
    have hs := hs s e
    cases s with
    | val d =>
      simp only [e] at q
      obtain ⟨v, e1, r⟩ := hs
      exact ⟨v, jn e1, (q.pure R.sub R.sto) v (.inl r)⟩
    | un => simp only [e] at q; exact q.elim
    | own ds =>
      simp only [e] at q
      obtain ⟨a, xs, e1, h1, h2, h3, h4, h5⟩ := hs
      exact ⟨.ref a, jn e1, (q.pure R.sub R.sto) _ (.inr ⟨a, xs, ds, rfl, rfl, h1, h4, h2⟩)⟩
    | exc i fs => simp only [e] at q; exact q.elim
theorem pe_kk {d : D} {v : V} (p : PE X e (tC v)) (r : ∀ g, RepV F.K F.pa g v d) : PE X e (tE F (kk d)) :=
  PE.mono (fun σ H Q ⟨g, ρ, st, R, q⟩ => (Post.pure (a := d) q R.sub R.sto) v (r g)) p

/-! ### arguments, displays -/
def plainE : Expr → Bool
  | .Starred .. => false
  | _ => true
theorem star_cons (h : plainE e = true) (env : Env) : starEach (e :: es) env = (false, eval e env) :: starEach es env := by
  cases e <;> first | rfl | (exact absurd h (by simp [plainE]))
theorem star_any {pos : Pos} {env : Env} : ∀ {es : List Expr}, (∀ e ∈ es, plainE e = true) → (backTo pos (starEach es env)).any (·.1) = false
  | [], _ => rfl
  | e :: es, h => by
    rw [star_cons (h e (by simp))]
    have := star_any (pos := pos) (env := env) (es := es) fun e' he => h e' (by simp [he])
    unfold backTo at this ⊢
    simpa using this
def aN : Ev → M (List D) := fun _ => pure []
def aC (f : Ev → M D) (fs : Ev → M (List D)) : Ev → M (List D) := fun ρ => do let d ← f ρ; let ds ← fs ρ; pure (d :: ds)
theorem pa_N : PA X [] (tA F aN) := PA.mono (fun σ H Q ⟨g, ρ, st, R, q⟩ => (Post.pure (a := []) q R.sub R.sto) [] RepVs.nil) pa_nil
theorem pa_C {f : Ev → M D} {fs : Ev → M (List D)} (h : plainE e = true) (p : PE X e (tE F f)) (r : PA X es (tA F fs)) : PA X (e :: es) (tA F (aC f fs)) := by
  refine PA.mono (fun σ H Q ⟨g, ρ, st, R, q⟩ => ?_) (pa_cons p r (star_cons h X.env))
  refine tE.use R q fun d g1 H1 st1 v gr1 R1 rv q1 => ?_
  refine tA.use R1 q1 fun ds g2 H2 st2 vs gr2 R2 rvs q2 => ?_
  exact (q2.pure R2.sub R2.sto) (v :: vs) (.cons (rv.le gr2.le) rvs)
def lineOk (n : Nat) : Bool := decide (n ≤ 16777216)
theorem lineOk_le {n : Nat} (h : lineOk n = true) : n ≤ sizeLine := by rw [sizeLine_eq]; exact of_decide_eq_true h
def tupM (ds : List D) : M D := if lineOk ds.length then pure (.tup ds) else stuck
def ownM (ds : List D) : M RV := if lineOk ds.length then pure (.own ds) else stuck
/-- a new tuple is laid -/
theorem lay_tup {g : Gh} {H : Hp} {σ : L2.St} {st : Store} {ds : List D} {vs : List V} {Q : VK} (sb : Sub g H) (so : StoR F.K F.pa g H st) (r : RepVs F.K F.pa g vs ds)
    (q : Post F g H σ (tupM ds st) fun d g' H' _ => ∀ v, RepV F.K F.pa g' v d → Q v H') : vs.length ≤ sizeLine ∧ ∀ p, H p = none → Q (.ref p) (upd H p (.tup vs)) := by
  unfold tupM at q
  split at q
  · rename_i h
    refine ⟨by rw [r.1]; exact lineOk_le h, fun p hp => ?_⟩
    exact q _ _ (grow_put sb hp) (sub_put sb) (sto_put so sb hp) _ (.tup' sqT_put (r.le (le_put (sb.none hp))))
  · exact q.elim
theorem lay_own {g : Gh} {H : Hp} {σ : L2.St} {st : Store} {ds : List D} {vs : List V} {Q : VK} (sb : Sub g H) (so : StoR F.K F.pa g H st) (r : RepVs F.K F.pa g vs ds)
    (q : Post F g H σ (ownM ds st) fun d g' H' _ => ∀ v, RVR F.K F.pa H g' H' v d → Q v H') : vs.length ≤ sizeLine ∧ ∀ p, H p = none → Q (.ref p) (upd H p (.lst vs)) := by
  unfold ownM at q
  split at q
  · rename_i h
    refine ⟨by rw [r.1]; exact lineOk_le h, fun p hp => ?_⟩
    have np := so.notNew hp
    refine q g _ ⟨Le.refl g, fun _ _ h => .inl h, fun _ h => .inl h, fun a u h _ _ => by rw [upd_ne (ne_of_none h hp)]; exact h, fun a u h => ⟨u, by rw [upd_ne (ne_of_none h hp)]; exact h⟩⟩
      (fun a u h => by rw [upd_ne (ne_of_none (sb a u h) hp)]; exact sb a u h) (so.keepAll (calm_new hp) fun a ha => upd_ne fun e => np (by rw [← e]; exact ha)) _ ⟨p, vs, rfl, upd_same, r, sb.none hp, np, hp⟩
  · exact q.elim
def tupE (fs : Ev → M (List D)) : Ev → M D := fun ρ => do let ds ← fs ρ; tupM ds
def lstE (fs : Ev → M (List D)) : Ev → M RV := fun ρ => do let ds ← fs ρ; ownM ds
theorem RVR.base {K : PySem.W.Frag} {pa : PAd} {g g1 g2 : Gh} {H H1 H2 : Hp} {v : V} {r : RV} (gr : Grow g H g1 H1) (h : RVR K pa H1 g2 H2 v r) : RVR K pa H g2 H2 v r := by
  cases r with
  | val d => exact h
  | own ds =>
    obtain ⟨a, xs, e, h1, h2, h3, h4, h5⟩ := h
    refine ⟨a, xs, e, h1, h2, h3, h4, ?_⟩
    cases q : H a with
    | none => rfl
    | some u => obtain ⟨o', z⟩ := gr.there a u q; rw [h5] at z; cases z
theorem pe_tupE {fs : Ev → M (List D)} {x1 : Nat} {pos : Pos} (p : PA X es (tA F fs)) : PE X (.Tuple es x1 pos) (tE F (tupE fs)) := by
  refine PE.mono (fun σ H Q ⟨g, ρ, st, R, q⟩ => ?_) (pe_tup p)
  exact tA.use R q fun ds g1 H1 st1 vs gr1 R1 rvs q1 => lay_tup R1.sub R1.sto rvs q1
theorem pe_lstE {fs : Ev → M (List D)} {pos : Pos} (p : PA X es (tA F fs)) : PE X (.List es pos) (tR F (lstE fs)) := by
  refine PE.mono (fun σ H Q ⟨g, ρ, st, R, q⟩ => ?_) (pe_lst p)
  exact tA.use R q fun ds g1 H1 st1 vs gr1 R1 rvs q1 => lay_own R1.sub R1.sto rvs (q1.imp fun r g' H' _ _ _ _ h v rv => h v (rv.base gr1))

/-! ### operations on two values -/
def Ok2 (F : Fm) (r : R2) (h : D → D → M RV) : Prop := ∀ (g : Gh) (H : Hp) (σ : L2.St) (st : Store) (x y : V) (d e : D) (Q : VK), Sub g H → StoR F.K F.pa g H st → RepQ F.K F.pa g H x d → RepQ F.K F.pa g H y e →
  (Post F g H σ (h d e st) fun rv g' H' _ => ∀ v, RVR F.K F.pa H g' H' v rv → Q v H') → r x y H Q
def Ok1 (F : Fm) (r : V → Hp → VK → Prop) (h : D → M RV) : Prop := ∀ (g : Gh) (H : Hp) (σ : L2.St) (st : Store) (x : V) (d : D) (Q : VK), Sub g H → StoR F.K F.pa g H st → RepQ F.K F.pa g H x d →
  (Post F g H σ (h d st) fun rv g' H' _ => ∀ v, RVR F.K F.pa H g' H' v rv → Q v H') → r x H Q
def op2 (h : D → D → M RV) (fa fb : Ev → M D) : Ev → M RV := fun ρ => do let x ← fa ρ; let y ← fb ρ; h x y
def op1 (h : D → M RV) (fa : Ev → M D) : Ev → M RV := fun ρ => do let x ← fa ρ; h x
theorem op2_mono {r : R2} {h : D → D → M RV} {fa fb : Ev → M D} {σ : L2.St} {H : Hp} {Q : VK} (ok : Ok2 F r h) (q : tR F (op2 h fa fb) σ H Q) : tOp r (tQ F fa) (tQ F fb) σ H Q := by
  obtain ⟨g, ρ, st, R, q⟩ := q
  refine tQ.use R q fun d g1 H1 st1 x gr1 R1 rx q1 => ?_
  refine tQ.use R1 q1 fun e g2 H2 st2 y gr2 R2 ry q2 => ?_
  exact ok g2 H2 σ st2 x y d e Q R2.sub R2.sto (rx.grow gr2) ry (q2.imp fun r g' H' _ _ _ _ h v rv => h v (rv.base (gr1.trans gr2)))
theorem pe_op2 {op : Operator} {r : R2} {h : D → D → M RV} {fa fb : Ev → M D} {pos : Pos} (ho : OpR X (binaryOp op) r) (ok : Ok2 F r h) (ha : PE X a (tQ F fa)) (hb : PE X b (tQ F fb)) : PE X (.BinOp a op b pos) (tR F (op2 h fa fb)) :=
  PE.mono (fun _ _ _ q => op2_mono ok q) (pe_op ho ha hb)
theorem pe_cmp2 {op : CmpOp} {r : R2} {h : D → D → M RV} {fa fb : Ev → M D} {pos : Pos} (ho : OpR X (compareOp op) r) (ok : Ok2 F r h) (hm : behindInMarks op b = false) (ha : PE X a (tQ F fa)) (hb : PE X b (tQ F fb)) : PE X (.Compare a [op] [b] pos) (tR F (op2 h fa fb)) :=
  PE.mono (fun _ _ _ q => op2_mono ok q) (pe_cmpR ho ha hb hm)
theorem pe_op1 {op : UnaryOp} {r : V → Hp → VK → Prop} {h : D → M RV} {fa : Ev → M D} {pos : Pos} (ho : UnR X (unaryOp op) r) (ok : Ok1 F r h) (ha : PE X a (tQ F fa)) : PE X (.UnaryOp op a pos) (tR F (op1 h fa)) := by
  refine PE.mono (fun σ H Q ⟨g, ρ, st, R, q⟩ => ?_) (pe_un ho ha)
  refine tQ.use R q fun d g1 H1 st1 x gr1 R1 rx q1 => ?_
  exact ok g1 H1 σ st1 x d Q R1.sub R1.sto rx (q1.imp fun r g' H' _ _ _ _ h v rv => h v (rv.base gr1))
end
end Dn

set_option Elab.async false
set_option linter.all false
set_option maxRecDepth 100000
set_option maxHeartbeats 4000000
/-! Den, part C: operations. -/
namespace Dn
open PySem PySem.Spec L2

section
variable {F : Fm} {X : Cx}
theorem post_v {g : Gh} {H : Hp} {σ : L2.St} {st : Store} {Q : VK} {d : D} (sb : Sub g H) (so : StoR F.K F.pa g H st)
    (q : Post F g H σ ((pure (.val d) : M RV) st) fun rv g' H' _ => ∀ v, RVR F.K F.pa H g' H' v rv → Q v H') {v : V} (r : RepV F.K F.pa g v d) : Q v H := (q.pure sb so) v r
abbrev retI (i : Int) : M RV := pure (.val (.int i))
abbrev retB (b : Bool) : M RV := pure (.val (.bl b))

/-! ints -/
def subM : D → D → M RV
  | .int i, .int j => retI (i - j)
  | _, _ => stuck
def mulOk (i j : Int) : Bool := decide (i.natAbs.log2 + j.natAbs.log2 < 1000000)
def divOk (j : Int) : Bool := decide (j ≠ 0) && decide (j.natAbs.log2 < 9000)
def powOk (i j : Int) : Bool := decide (0 ≤ j ∧ j ≤ 1000000 ∧ i.natAbs < 2 ^ 64)
def divM : D → D → M RV
  | .int i, .int j => if divOk j then retI (i.fdiv j) else stuck
  | _, _ => stuck
def modM : D → D → M RV
  | .int i, .int j => if j = 0 then stuck else retI (i.fmod j)
  | _, _ => stuck
def powM : D → D → M RV
  | .int i, .int j => if powOk i j then retI (i ^ j.toNat) else stuck
  | _, _ => stuck
theorem repq_int {K pa g H v i} (h : RepQ K pa g H v (.int i)) : v = .int i := (h.notlst (fun _ z => by cases z)).int_inv
theorem repq_bl {K pa g H v b} (h : RepQ K pa g H v (.bl b)) : v = .bl b := (h.notlst (fun _ z => by cases z)).bl_inv
theorem repq_str {K pa g H v b} (h : RepQ K pa g H v (.str b)) : v = .str b := (h.notlst (fun _ z => by cases z)).str_inv
theorem repq_non {K pa g H v} (h : RepQ K pa g H v .non) : v = .non := (h.notlst (fun _ z => by cases z)).non_inv
theorem repq_tup {K pa g H v l} (h : RepQ K pa g H v (.tup l)) : RepV K pa g v (.tup l) := h.notlst (fun _ z => by cases z)
theorem ok_sub : Ok2 F (rI0 fun i j => .int (i - j)) subM := by
  intro g H σ st x y d e Q sb so rx ry q
  unfold subM at q
  split at q
  · exact ⟨_, _, repq_int rx, repq_int ry, post_v sb so q (.int _)⟩
  · exact q.elim
theorem op_fdivZ : OpR X (binaryOp .FloorDiv) (rI (fun _ j => j ≠ 0 ∧ j.natAbs.log2 < 9000) fun i j => .int (i.fdiv j)) :=
  opI fun _ _ _ _ _ _ _ hc q => PyProof.Rows.floordiv_int hc.1 q (.inl (PyProof.noPylong_of_log2 hc.2))
theorem ok_div : Ok2 F (rI (fun _ j => j ≠ 0 ∧ j.natAbs.log2 < 9000) fun i j => .int (i.fdiv j)) divM := by
  intro g H σ st x y d e Q sb so rx ry q
  unfold divM at q
  split at q
  · split at q
    · rename_i h
      simp only [divOk, Bool.and_eq_true, decide_eq_true_eq] at h
      exact ⟨_, _, repq_int rx, repq_int ry, h, post_v sb so q (.int _)⟩
    · exact q.elim
  · exact q.elim
theorem ok_mod : Ok2 F (rI (fun _ j => j ≠ 0) fun i j => .int (i.fmod j)) modM := by
  intro g H σ st x y d e Q sb so rx ry q
  unfold modM at q
  split at q
  · split at q
    · exact q.elim
    · rename_i h
      exact ⟨_, _, repq_int rx, repq_int ry, h, post_v sb so q (.int _)⟩
  · exact q.elim
theorem ok_pow : Ok2 F (rI CPow fun i j => .int (i ^ j.toNat)) powM := by
  intro g H σ st x y d e Q sb so rx ry q
  unfold powM at q
  split at q
  · split at q
    · rename_i h
      exact ⟨_, _, repq_int rx, repq_int ry, (by simpa [powOk, CPow] using h), post_v sb so q (.int _)⟩
    · exact q.elim
  · exact q.elim
/-! + -/
def addM : D → D → M RV
  | .int i, .int j => retI (i + j)
  | .lst a, .lst b => ownM (a ++ b)
  | .tup (a :: as), .tup (b :: bs) => do let d ← tupM ((a :: as) ++ (b :: bs)); pure (.val d)
  | .tup (a :: as), .tup [] => if lineOk (a :: as).length then pure (.val (.tup (a :: as))) else stuck
  | _, _ => stuck
theorem lay_tupR {g : Gh} {H : Hp} {σ : L2.St} {st : Store} {ds : List D} {vs : List V} {Q : VK} (sb : Sub g H) (so : StoR F.K F.pa g H st) (r : RepVs F.K F.pa g vs ds)
    (q : Post F g H σ ((do let d ← tupM ds; pure (.val d) : M RV) st) fun rv g' H' _ => ∀ v, RVR F.K F.pa H g' H' v rv → Q v H') : vs.length ≤ sizeLine ∧ ∀ p, H p = none → Q (.ref p) (upd H p (.tup vs)) :=
  lay_tup (F := F) (σ := σ) sb so r (q.bind.imp fun d g' H' st' gr sb so q v rv => (q.pure sb so) v rv)
def rAddA (K : PySem.W.Frag) : R2 := fun x y H Q => rI0 (fun i j => .int (i + j)) x y H Q ∨ rCat x y H Q ∨ rCatT K x y H Q
theorem op_addA : OpR X (binaryOp .Add) (rAddA X.K) := op_add.or (op_cat.or op_catT)
theorem ok_add : Ok2 F (rAddA F.K) addM := by
  intro g H σ st x y d e Q sb so rx ry q
  unfold addM at q
  split at q
  · exact .inl ⟨_, _, repq_int rx, repq_int ry, post_v sb so q (.int _)⟩
  · obtain ⟨a, xs, rfl, h1, r1⟩ := rx.lst_inv sb
    obtain ⟨b, ys, rfl, h2, r2⟩ := ry.lst_inv sb
    obtain ⟨z1, z2⟩ := lay_own sb so (r1.append r2) q
    exact .inr (.inl ⟨a, b, xs, ys, rfl, rfl, h1, h2, by simpa using z1, z2⟩)
  · obtain ⟨a, xs, rfl, h1, r1⟩ := (repq_tup rx).tup_inv
    obtain ⟨b, ys, rfl, h2, r2⟩ := (repq_tup ry).tup_inv
    obtain ⟨z1, z2⟩ := lay_tupR sb so (r1.append r2) q
    refine .inr (.inr ⟨a, b, xs, ys, rfl, rfl, sb.sqT h1, sb.sqT h2, fun z => ?_, by simpa using z1, fun z => ?_, fun _ => z2⟩)
    · subst z; have := r1.1; simp at this
    · subst z; have := r2.1; simp at this
  · obtain ⟨a, xs, rfl, h1, r1⟩ := (repq_tup rx).tup_inv
    obtain ⟨b, ys, rfl, h2, r2⟩ := (repq_tup ry).tup_inv
    obtain rfl := r2.inv_nil
    split at q
    · rename_i hz
      refine .inr (.inr ⟨a, b, xs, [], rfl, rfl, sb.sqT h1, sb.sqT h2, fun z => ?_, by rw [r1.1]; exact lineOk_le hz, fun _ => post_v sb so q (.tup' h1 r1), fun z => absurd rfl z⟩)
      subst z; have := r1.1; simp at this
    · exact q.elim
  · exact q.elim
/-! * -/
def mulM : D → D → M RV
  | .int i, .int j => if mulOk i j then retI (i * j) else stuck
  | .lst a, .int k => if decide (0 ≤ k ∧ k ≤ 1000) then ownM (List.replicate k.toNat a).flatten else stuck
  | .tup (a :: as), .int k => if decide (2 ≤ k ∧ k ≤ 1000 ∧ as.length < 1000) then (do let d ← tupM (List.replicate k.toNat (a :: as)).flatten; pure (.val d)) else stuck
  | _, _ => stuck
theorem RepVs.rep {K : PySem.W.Frag} {pa : PAd} {g : Gh} {xs : List V} {ds : List D} (r : RepVs K pa g xs ds) : ∀ n, RepVs K pa g (List.replicate n xs).flatten (List.replicate n ds).flatten
  | 0 => by simpa using RepVs.nil
  | n + 1 => by
    rw [List.replicate_succ, List.replicate_succ, List.flatten_cons, List.flatten_cons]
    exact r.append (RepVs.rep r n)
def rMulA (K : PySem.W.Frag) : R2 := fun x y H Q => rI CMulW (fun i j => .int (i * j)) x y H Q ∨ rRep x y H Q ∨ rRepT K x y H Q
theorem op_mulA : OpR X (binaryOp .Mult) (rMulA X.K) := op_mulW.or (op_rep.or op_repT)
theorem len_flat {α : Type} (n : Nat) (l : List α) : (List.replicate n l).flatten.length = l.length * n := by
  induction n with
  | zero => simp
  | succ n ih => rw [List.replicate_succ, List.flatten_cons, List.length_append, ih, Nat.mul_succ, Nat.add_comm]
theorem ok_mul : Ok2 F (rMulA F.K) mulM := by
  intro g H σ st x y d e Q sb so rx ry q
  unfold mulM at q
  split at q
  · split at q
    · rename_i h
      exact .inl ⟨_, _, repq_int rx, repq_int ry, (by simpa [mulOk, CMulW] using h), post_v sb so q (.int _)⟩
    · exact q.elim
  · split at q
    · rename_i k h
      have h := of_decide_eq_true h
      obtain ⟨a, xs, rfl, h1, r1⟩ := rx.lst_inv sb
      obtain ⟨z1, z2⟩ := lay_own sb so (r1.rep k.toNat) q
      exact .inr (.inl ⟨a, k, xs, rfl, repq_int ry, h1, by omega, by omega, by rw [← len_flat]; exact z1, z2⟩)
    · exact q.elim
  · split at q
    · rename_i k h
      have h := of_decide_eq_true h
      obtain ⟨a, xs, rfl, h1, r1⟩ := (repq_tup rx).tup_inv
      obtain ⟨z1, z2⟩ := lay_tupR sb so (r1.rep k.toNat) q
      refine .inr (.inr ⟨a, k, xs, rfl, repq_int ry, sb.sqT h1, fun z => ?_, h.1, h.2.1, by rw [r1.1]; simp; omega, z2⟩)
      subst z; have := r1.1; simp at this
    · exact q.elim
  · exact q.elim
/-! comparisons -/
def cmpI (p : Int → Int → Bool) : D → D → M RV
  | .int i, .int j => retB (p i j)
  | _, _ => stuck
theorem ok_cmpI (p : Int → Int → Bool) : Ok2 F (rI0 fun i j => .bl (p i j)) (cmpI p) := by
  intro g H σ st x y d e Q sb so rx ry q
  unfold cmpI at q
  split at q
  · exact ⟨_, _, repq_int rx, repq_int ry, post_v sb so q (.bl _)⟩
  · exact q.elim
mutual
theorem dp_of {K : PySem.W.Frag} {pa : PAd} {g : Gh} {H : Hp} (sb : Sub g H) : ∀ (d : D) (v : V), d.dat = true → RepV K pa g v d → Dp K H v d.py
  | .non, v, _, r => by rw [r.non_inv]; exact .non
  | .bl b, v, _, r => by rw [r.bl_inv]; exact .bl b
  | .int b, v, _, r => by rw [r.int_inv]; exact .int b
  | .str b, v, _, r => by rw [r.str_inv]; exact .str b
  | .tup l, v, h, r => by
    obtain ⟨a, xs, rfl, h1, r1⟩ := r.tup_inv
    exact .tup (sb.sqT h1) (dps_of sb l xs (by simpa [D.dat] using h) r1)
  | .lst l, v, h, r => by
    obtain ⟨a, xs, rfl, h1, r1⟩ := r.lst_inv
    exact .lst (SqL.of (sb _ _ h1)) (dps_of sb l xs (by simpa [D.dat] using h) r1)
  | .scr l, v, h, r => by simp [D.dat] at h
  | .dic l, v, h, r => by simp [D.dat] at h
  | .fn l, v, h, r => by simp [D.dat] at h
  | .ty l, v, h, r => by simp [D.dat] at h
  | .cel l, v, h, r => by simp [D.dat] at h
  | .clo l, v, h, r => by simp [D.dat] at h
  | .ins l _, v, h, r => by simp [D.dat] at h
theorem dps_of {K : PySem.W.Frag} {pa : PAd} {g : Gh} {H : Hp} (sb : Sub g H) : ∀ (l : List D) (xs : List V), D.datAll l = true → RepVs K pa g xs l → DpAll K H xs (D.pyAll l)
  | [], xs, _, r => by rw [r.inv_nil]; exact .nil
  | d :: l, xs, h, r => by
    obtain ⟨y, ys, rfl, r1, r2⟩ := r.inv_cons
    simp only [D.datAll, Bool.and_eq_true] at h
    exact .cons (dp_of sb d y h.1 r1) (dps_of sb l ys h.2 r2)
end
theorem dpq_of {K : PySem.W.Frag} {pa : PAd} {g : Gh} {H : Hp} (sb : Sub g H) {d : D} {v : V} (h : d.dat = true) (r : RepQ K pa g H v d) : Dp K H v d.py := by
  rcases r with r | ⟨a, xs, ds, rfl, rfl, h1, _, r1⟩
  · exact dp_of sb d v h r
  · exact .lst (SqL.of h1) (dps_of sb ds xs (by simpa [D.dat] using h) r1)
def okE (d : D) : Bool := d.dat && SeqAt.shaped d.py
def eqO : D → D → Option Bool
  | .str x, .str y => some (x == y)
  | d, e => if okE d && okE e then some (PyData.eqv d.py e.py) else none
def eqM (d e : D) : M RV := match eqO d e with | some b => retB b | none => stuck
def neM (d e : D) : M RV := match eqO d e with | some b => retB (!b) | none => stuck
def rEqA (K : PySem.W.Frag) : R2 := fun x y H Q => rEqD K x y H Q ∨ rEq x y H Q
def rNeA (K : PySem.W.Frag) : R2 := fun x y H Q => rNeD K x y H Q ∨ rNe x y H Q
theorem op_eqA (hu : X.A.units + 64 < cLine) : OpR X (compareOp .Eq) (rEqA X.K) := (op_eqD hu).or op_eq
theorem op_neA (hu : X.A.units + 64 < cLine) : OpR X (compareOp .NotEq) (rNeA X.K) := (op_neD hu).or op_ne
theorem eqO_cases {d e : D} {b : Bool} (h : eqO d e = some b) : (∃ x y, d = .str x ∧ e = .str y ∧ b = decide (V.str x = V.str y)) ∨ (okE d = true ∧ okE e = true ∧ b = PyData.eqv d.py e.py) := by
  unfold eqO at h
  split at h
  · rename_i x y
    refine .inl ⟨x, y, rfl, rfl, ?_⟩
    cases h
    rw [dec_str]
  · split at h
    · rename_i z
      simp only [Bool.and_eq_true] at z
      cases h
      exact .inr ⟨z.1, z.2, rfl⟩
    · cases h
theorem ok_eq : Ok2 F (rEqA F.K) eqM := by
  intro g H σ st x y d e Q sb so rx ry q
  unfold eqM at q
  cases h : eqO d e with
  | none => rw [h] at q; exact q.elim
  | some b =>
    rw [h] at q
    rcases eqO_cases h with ⟨x', y', rfl, rfl, rfl⟩ | ⟨h1, h2, rfl⟩
    · obtain rfl := repq_str rx
      obtain rfl := repq_str ry
      exact .inr ⟨rfl, post_v sb so q (.bl _)⟩
    · simp only [okE, Bool.and_eq_true] at h1 h2
      exact .inl ⟨d.py, e.py, dpq_of sb h1.1 rx, dpq_of sb h2.1 ry, h1.2, h2.2, post_v sb so q (.bl _)⟩
theorem ok_ne : Ok2 F (rNeA F.K) neM := by
  intro g H σ st x y d e Q sb so rx ry q
  unfold neM at q
  cases h : eqO d e with
  | none => rw [h] at q; exact q.elim
  | some b =>
    rw [h] at q
    rcases eqO_cases h with ⟨x', y', rfl, rfl, rfl⟩ | ⟨h1, h2, rfl⟩
    · obtain rfl := repq_str rx
      obtain rfl := repq_str ry
      exact .inr ⟨rfl, post_v sb so q (.bl _)⟩
    · simp only [okE, Bool.and_eq_true] at h1 h2
      exact .inl ⟨d.py, e.py, dpq_of sb h1.1 rx, dpq_of sb h2.1 ry, h1.2, h2.2, post_v sb so q (.bl _)⟩
/-! in, not in: of a list, of a tuple -/
def rInT (neg : Bool) (K : PySem.W.Frag) : R2 := fun x y H Q => ∃ d ds, Dp K H x d ∧ (Dp K H y (.tuple ds) ∧ SeqAt.shaped (.tuple ds) = true ∨ Dp K H y (.list ds) ∧ SeqAt.shaped (.list ds) = true) ∧ SeqAt.shaped d = true ∧ Q (.bl (xor neg (ds.any fun z => PyData.eqv z d))) H
theorem op_inA (hu : X.A.units + 65 < cLine) : OpR X (compareOp .In) (rInT false X.K) := fun pins s σ H x y v u Q I rx ry ⟨d, ds, hd, he, sd, q⟩ => by
  have ⟨as, r1⟩ := Dp.reads I d x v hd rx
  have ro := PyProof.Rows.room_in_shaped (xs := ds) sd hu
  rw [Bool.false_xor] at q
  rcases he with ⟨he, se⟩ | ⟨he, se⟩
  · have ⟨bs, r2⟩ := Dp.reads I (.tuple ds) y u he ry
    exact SeqAt.in_tuple_reads r2 r1 (SeqAt.canLay_of_shaped se) (SeqAt.canLay_of_shaped sd) ro ⟨.bl _, H, I, rfl, q⟩
  · have ⟨bs, r2⟩ := Dp.reads I (.list ds) y u he ry
    exact SeqAt.in_list_reads r2 r1 (SeqAt.canLay_of_shaped se) (SeqAt.canLay_of_shaped sd) ro ⟨.bl _, H, I, rfl, q⟩
theorem op_ninA (hu : X.A.units + 65 < cLine) : OpR X (compareOp .NotIn) (rInT true X.K) := fun pins s σ H x y v u Q I rx ry ⟨d, ds, hd, he, sd, q⟩ => by
  have ⟨as, r1⟩ := Dp.reads I d x v hd rx
  have ro := PyProof.Rows.room_in_shaped (xs := ds) sd hu
  rw [Bool.true_xor] at q
  rcases he with ⟨he, se⟩ | ⟨he, se⟩
  · have ⟨bs, r2⟩ := Dp.reads I (.tuple ds) y u he ry
    exact SeqAt.notIn_tuple_reads r2 r1 (SeqAt.canLay_of_shaped se) (SeqAt.canLay_of_shaped sd) ro ⟨.bl _, H, I, rfl, q⟩
  · have ⟨bs, r2⟩ := Dp.reads I (.list ds) y u he ry
    exact SeqAt.notIn_list_reads r2 r1 (SeqAt.canLay_of_shaped se) (SeqAt.canLay_of_shaped sd) ro ⟨.bl _, H, I, rfl, q⟩
def inO (d : D) : D → Option Bool
  | .tup l => if okE d && okE (.tup l) then some ((D.pyAll l).any fun z => PyData.eqv z d.py) else none
  | .lst l => if okE d && okE (.lst l) then some ((D.pyAll l).any fun z => PyData.eqv z d.py) else none
  | _ => none
def inM (neg : Bool) (d e : D) : M RV := match inO d e with | some b => retB (xor neg b) | none => stuck
theorem ok_in (neg : Bool) : Ok2 F (rInT neg F.K) (inM neg) := by
  intro g H σ st x y d e Q sb so rx ry q
  unfold inM at q
  cases h : inO d e with
  | none => rw [h] at q; exact q.elim
  | some b =>
    rw [h] at q
    unfold inO at h
    split at h
    · rename_i l
      split at h
      · rename_i z
        simp only [okE, Bool.and_eq_true] at z
        cases h
        exact ⟨d.py, D.pyAll l, dpq_of sb z.1.1 rx, .inl ⟨dpq_of sb z.2.1 ry, z.2.2⟩, z.1.2, post_v sb so q (.bl _)⟩
      · cases h
    · rename_i l
      split at h
      · rename_i z
        simp only [okE, Bool.and_eq_true] at z
        cases h
        exact ⟨d.py, D.pyAll l, dpq_of sb z.1.1 rx, .inr ⟨dpq_of sb z.2.1 ry, z.2.2⟩, z.1.2, post_v sb so q (.bl _)⟩
      · cases h
    · cases h
/-! is -/
def isO : D → D → Option Bool
  | .non, .non => some true
  | .bl a, .bl b => some (a == b)
  | .bl _, .non | .int _, .non | .str _, .non | .tup _, .non | .lst _, .non | .ty _, .non | .fn _, .non | .cel _, .non | .dic _, .non => some false
  | _, _ => none
def isM (d e : D) : M RV := match isO d e with | some b => retB b | none => stuck
def isnM (d e : D) : M RV := match isO d e with | some b => retB (!b) | none => stuck
def rIs (n : Bool) : R2 := fun x y H Q => (y = .non ∧ Q (.bl (n ^^ decide (x = .non))) H) ∨ ∃ a b, x = .bl a ∧ y = .bl b ∧ Q (.bl (n ^^ (a == b))) H
theorem op_isA : OpR X (compareOp .Is) (rIs false) := by
  intro pins s σ H x y v u Q I rx ry h
  rcases h with ⟨rfl, q⟩ | ⟨a, b, rfl, rfl, q⟩
  · exact op_isN pins s σ H x .non v u Q I rx ry ⟨rfl, by simpa using q⟩
  · cases rx; cases ry
    exact PyProof.Rows.is_bool ⟨.bl _, H, I, rfl, by simpa using q⟩
theorem op_isnA : OpR X (compareOp .IsNot) (rIs true) := by
  intro pins s σ H x y v u Q I rx ry h
  rcases h with ⟨rfl, q⟩ | ⟨a, b, rfl, rfl, q⟩
  · exact op_notN pins s σ H x .non v u Q I rx ry ⟨rfl, by simpa using q⟩
  · cases rx; cases ry
    have e : compareOp .IsNot (.bool a) (.bool b) = (do let x ← isSame (.bool a) (.bool b); return .bool (!x)) := rfl
    have e2 : isSame (.bool a) (.bool b) = pure (a == b) := by
      first | rfl | (cases a <;> cases b <;> rfl)
    rw [e, e2]
    exact wpAny_pure ⟨.bl _, H, I, rfl, by simpa using q⟩
theorem ref_of_tup {K : PySem.W.Frag} {pa : PAd} {g : Gh} {v : V} {l : List D} (r : RepV K pa g v (.tup l)) : ∃ a, v = .ref a := let ⟨a, _, e, _⟩ := r.tup_inv; ⟨a, e⟩
theorem isO_cases {K : PySem.W.Frag} {pa : PAd} {g : Gh} {H : Hp} {d e : D} {b : Bool} {x y : V} (sb : Sub g H) (h : isO d e = some b) (rx : RepQ K pa g H x d) (ry : RepQ K pa g H y e) :
    (y = .non ∧ b = decide (x = .non)) ∨ ∃ a c, x = .bl a ∧ y = .bl c ∧ b = (a == c) := by
  unfold isO at h
  split at h
  · cases h; exact .inl ⟨repq_non ry, by rw [repq_non rx]; rfl⟩
  · cases h; exact .inr ⟨_, _, repq_bl rx, repq_bl ry, rfl⟩
  · cases h; exact .inl ⟨repq_non ry, by rw [repq_bl rx]; rfl⟩
  · cases h; exact .inl ⟨repq_non ry, by rw [repq_int rx]; rfl⟩
  · cases h; exact .inl ⟨repq_non ry, by rw [repq_str rx]; rfl⟩
  · cases h
    obtain ⟨a, rfl⟩ := ref_of_tup (repq_tup rx)
    exact .inl ⟨repq_non ry, rfl⟩
  · cases h
    obtain ⟨a, _, rfl, _⟩ := rx.lst_inv sb
    exact .inl ⟨repq_non ry, rfl⟩
  · cases h
    obtain rfl := (rx.notlst (fun _ z => by cases z)).ty_inv
    exact .inl ⟨repq_non ry, rfl⟩
  · cases h
    obtain ⟨a, rfl, _⟩ := (rx.notlst (fun _ z => by cases z)).fn_inv
    exact .inl ⟨repq_non ry, rfl⟩
  · cases h
    obtain ⟨a, rfl, _⟩ := (rx.notlst (fun _ z => by cases z)).cel_inv
    exact .inl ⟨repq_non ry, rfl⟩
  · cases h
    obtain ⟨a, rfl, _⟩ := (rx.notlst (fun _ z => by cases z)).dic_inv
    exact .inl ⟨repq_non ry, rfl⟩
  · cases h
theorem ok_is : Ok2 F (rIs false) isM := by
  intro g H σ st x y d e Q sb so rx ry q
  unfold isM at q
  cases h : isO d e with
  | none => rw [h] at q; exact q.elim
  | some b =>
    rw [h] at q
    rcases isO_cases sb h rx ry with ⟨rfl, rfl⟩ | ⟨a, c, rfl, rfl, rfl⟩
    · exact .inl ⟨rfl, by simpa using post_v sb so q (.bl _)⟩
    · exact .inr ⟨a, c, rfl, rfl, by simpa using post_v sb so q (.bl _)⟩
theorem ok_isn : Ok2 F (rIs true) isnM := by
  intro g H σ st x y d e Q sb so rx ry q
  unfold isnM at q
  cases h : isO d e with
  | none => rw [h] at q; exact q.elim
  | some b =>
    rw [h] at q
    rcases isO_cases sb h rx ry with ⟨rfl, rfl⟩ | ⟨a, c, rfl, rfl, rfl⟩
    · exact .inl ⟨rfl, by simpa using post_v sb so q (.bl _)⟩
    · exact .inr ⟨a, c, rfl, rfl, by simpa using post_v sb so q (.bl _)⟩
/-! truth -/
def truO : D → Option Bool
  | .non => some false
  | .bl b => some b
  | .int i => some (i != 0)
  | .str x => if lineOk x.length then some (decide (x.length ≠ 0)) else none
  | .tup l => some (!l.isEmpty)
  | .lst l => some (!l.isEmpty)
  | _ => none
def truM (d : D) : M Bool := match truO d with | some b => pure b | none => stuck
theorem isE_of {K : PySem.W.Frag} {pa : PAd} {g : Gh} {xs : List V} {ds : List D} (r : RepVs K pa g xs ds) : ds.isEmpty = xs.isEmpty := by
  cases ds with
  | nil => rw [r.inv_nil]; rfl
  | cons d ds => obtain ⟨y, ys, rfl, _⟩ := r.inv_cons; rfl
theorem tru_of {K : PySem.W.Frag} {pa : PAd} {g : Gh} {H : Hp} {d : D} {b : Bool} {x : V} (sb : Sub g H) (h : truO d = some b) (rx : RepQ K pa g H x d) : TruV K x H b := by
  unfold truO at h
  split at h
  · cases h; rw [repq_non rx]; rfl
  · cases h; rw [repq_bl rx]; rfl
  · cases h; rw [repq_int rx]; rfl
  · split at h
    · rename_i z
      cases h
      rw [repq_str rx]
      refine ⟨lineOk_le z, ?_⟩
      rename_i y
      by_cases e : y.length = 0
      · rw [e]; rfl
      · have : ((y.length : Int) != 0) = true := by simp; omega
        rw [this]; simp [e]
    · cases h
  · cases h
    obtain ⟨a, xs, rfl, h1, r1⟩ := (repq_tup rx).tup_inv
    exact .inr (.inl ⟨xs, sb.sqT h1, by rw [isE_of r1]⟩)
  · cases h
    obtain ⟨a, xs, rfl, h1, r1⟩ := rx.lst_inv sb
    exact .inl ⟨xs, SqL.of h1, by rw [isE_of r1]⟩
  · cases h
def notM (d : D) : M RV := do let b ← truM d; retB (!b)
def negM : D → M RV
  | .int i => retI (-i)
  | _ => stuck
theorem un_not : UnR X (unaryOp .Not) (fun x H Q => ∃ k, TruV X.K x H k ∧ Q (.bl (!k)) H) := by
  intro pins s σ H x v Q I rx h
  obtain ⟨k, e, q⟩ := h
  exact PyProof.Rows.not_of (thn (tru_ok pins s σ H x v (fun c H2 => Q (.bl (!c)) H2) I rx ⟨k, e, q⟩) fun c s2 ⟨H2, I2, q2⟩ => ⟨.bl (!c), H2, I2, rfl, q2⟩)
theorem ok_not : Ok1 F (fun x H Q => ∃ k, TruV F.K x H k ∧ Q (.bl (!k)) H) notM := by
  intro g H σ st x d Q sb so rx q
  unfold notM truM at q
  cases h : truO d with
  | none => rw [h] at q; exact q.elim
  | some b => rw [h] at q; exact ⟨b, tru_of sb h rx, post_v sb so (q : Post F g H σ ((pure (.val (.bl (!b))) : M RV) st) _) (.bl _)⟩
theorem ok_neg : Ok1 F (rU fun i => .int (-i)) negM := by
  intro g H σ st x d Q sb so rx q
  unfold negM at q
  split at q
  · exact ⟨_, repq_int rx, post_v sb so q (.int _)⟩
  · exact q.elim
/-! items -/
def atD (l : List D) (i : Int) : M RV := match atI l i with | some d => pure (.val d) | none => stuck
def ixM : D → D → M RV
  | .tup l, .int i => atD l i
  | .lst l, .int i => atD l i
  | _, _ => stuck
theorem atI_of {K : PySem.W.Frag} {pa : PAd} {g : Gh} {xs : List V} {ds : List D} {i : Int} {d : D} (r : RepVs K pa g xs ds) (h : atI ds i = some d) : ∃ x, atI xs i = some x ∧ RepV K pa g x d := by
  unfold atI at h ⊢
  rw [r.1]
  cases e : ixN ds.length i with
  | none => rw [e] at h; cases h
  | some j =>
    rw [e] at h
    exact r.get h
theorem OpIx.or {r r' : R2} (h : IxR X r) (h' : IxR X r') : IxR X (fun x y H Q => r x y H Q ∨ r' x y H Q) := by
  intro value slice pins s σ H x y v u Q I rx ry q hs
  rcases q with q | q
  · exact h value slice pins s σ H x y v u Q I rx ry q hs
  · exact h' value slice pins s σ H x y v u Q I rx ry q hs
def rIxA (K : PySem.W.Frag) : R2 := fun x y H Q => rIxL K x y H Q ∨ rIxT K x y H Q
theorem ix_A : IxR X (rIxA X.K) := OpIx.or ix_list ix_tup
theorem ok_ix : Ok2 F (rIxA F.K) ixM := by
  intro g H σ st x y d e Q sb so rx ry q
  unfold ixM at q
  split at q
  · rename_i l i
    unfold atD at q
    cases h : atI l i with
    | none => rw [h] at q; exact q.elim
    | some d =>
      rw [h] at q
      obtain ⟨a, xs, rfl, h1, r1⟩ := (repq_tup rx).tup_inv
      obtain ⟨v, e1, rv⟩ := atI_of r1 h
      exact .inr ⟨a, xs, _, v, rfl, repq_int ry, sb.sqT h1, e1, post_v sb so q rv⟩
  · rename_i l i
    unfold atD at q
    cases h : atI l i with
    | none => rw [h] at q; exact q.elim
    | some d =>
      rw [h] at q
      obtain ⟨a, xs, rfl, h1, r1⟩ := rx.lst_inv sb
      obtain ⟨v, e1, rv⟩ := atI_of r1 h
      exact .inl ⟨a, xs, _, v, rfl, repq_int ry, SqL.of h1, e1, post_v sb so q rv⟩
  · exact q.elim
end
end Dn

set_option Elab.async false
set_option linter.all false
set_option maxRecDepth 100000
set_option maxHeartbeats 4000000
/-! Den, part D: tests, conditionals, items, dicts with text keys, built-in calls. -/
namespace Dn
open PySem PySem.Spec L2

section
variable {F : Fm} {X : Cx} {a b c e : Expr} {es rest : List Expr} {pos : Pos}
/-! ### tests -/
def truE (f : Ev → M D) : Ev → M Bool := fun ρ => do let d ← f ρ; truM d
def plainT (e : Expr) : Bool := match e with
  | .UnaryOp .Not _ _ | .BoolOp .. | .IfExp .. | .Compare .. => false
  | _ => true
theorem isTrue_shape (h : plainT e = true) (env : Env) : ∀ whole, isTrue e env whole = (do let v ← whole; standAt e.pos; holding [v] (truthy v)) := by
  intro whole
  cases e with
  | UnaryOp op x p => cases op <;> first | rfl | (simp [plainT] at h)
  | BoolOp => simp [plainT] at h
  | IfExp => simp [plainT] at h
  | Compare => simp [plainT] at h
  | _ => rfl
theorem pt_tru (hK : X.K = F.K) {f : Ev → M D} (hs : plainT e = true) (p : PE X e (tQ F f)) : PT X e (tT F (truE f)) := by
  refine PT.mono (fun σ H Q ⟨g, ρ, st, R, q⟩ => ?_) (pt_truth p (isTrue_shape hs X.env))
  refine tQ.use R q fun d g1 H1 st1 x gr1 R1 rx q1 => ?_
  unfold truM at q1
  cases h : truO d with
  | none => rw [h] at q1; exact q1.elim
  | some b => rw [h] at q1; exact ⟨b, by rw [hK]; exact tru_of R1.sub h rx, q1.pure R1.sub R1.sto⟩
/-- a bool's test -/
def blM : RV → M Bool
  | .val (.bl b) => pure b
  | _ => stuck
def tstE (f : Ev → M RV) : Ev → M Bool := fun ρ => do let r ← f ρ; blM r
theorem tR.useP {α : Type} {f : Ev → M RV} {h : RV → M α} {σ : L2.St} {H : Hp} {g : Gh} {ρ : Ev} {st : Store} {k : α → Gh → Hp → Store → Prop} {Q : VK} (R : SRel F g H σ ρ st) (p : Post F g H σ ((f ρ >>= h) st) k)
    (c : ∀ d g' H' st' v, Grow g H g' H' → SRel F g' H' σ ρ st' → RVR F.K F.pa H g' H' v d → Post F g' H' σ (h d st') k → Q v H') : tR F f σ H Q := by
  refine ⟨g, ρ, st, R, p.bind.imp fun d g' H' st' gr sb so q v rv => c d g' H' st' v gr (R.grow gr sb so) rv q⟩
theorem blM_val {g : Gh} {H : Hp} {σ : L2.St} {st : Store} {r : RV} {k : Bool → Gh → Hp → Store → Prop} (q : Post F g H σ (blM r st) k) (sb : Sub g H) (so : StoR F.K F.pa g H st) : ∃ b, r = .val (.bl b) ∧ k b g H st := by
  unfold blM at q
  split at q
  · exact ⟨_, rfl, q.pure sb so⟩
  · exact q.elim
theorem pt_cmp2 {op : CmpOp} {r : R2} {h : D → D → M RV} {fa fb : Ev → M D} (ho : OpR X (compareOp op) r) (ok : Ok2 F r h) (hm : behindInMarks op b = false) (ha : PE X a (tQ F fa)) (hb : PE X b (tQ F fb)) :
    PT X (.Compare a [op] [b] pos) (tT F (tstE (op2 h fa fb))) := by
  refine PT.mono (fun σ H Q ⟨g, ρ, st, R, q⟩ => ?_) (pt_cmpR ho ha hb hm)
  refine op2_mono ok (tR.useP R q fun d g1 H1 st1 x gr1 R1 rx q1 => ?_)
  obtain ⟨b, rfl, q2⟩ := blM_val q1 R1.sub R1.sto
  have : RepV F.K F.pa g1 x (.bl b) := rx
  exact ⟨b, this.bl_inv, q2⟩
def chn (h h' : D → D → M RV) (fa fb fc : Ev → M D) : Ev → M RV := fun ρ => do
  let x ← fa ρ; let y ← fb ρ; let r ← h x y; let k ← blM r; if k then (do let z ← fc ρ; h' y z) else retB false
theorem chn_mono {r r' : R2} {h h' : D → D → M RV} {fa fb fc : Ev → M D} {σ : L2.St} {H : Hp} {Q : VK} (ok : Ok2 F r h) (ok' : Ok2 F r' h') (q : tR F (chn h h' fa fb fc) σ H Q) : tChain r r' (tQ F fa) (tQ F fb) (tQ F fc) σ H Q := by
  obtain ⟨g, ρ, st, R, q⟩ := q
  refine tQ.use R q fun d g1 H1 st1 x gr1 R1 rx q1 => ?_
  refine tQ.use R1 q1 fun e g2 H2 st2 y gr2 R2 ry q2 => ?_
  refine ok g2 H2 σ st2 x y d e _ R2.sub R2.sto (rx.grow gr2) ry ?_
  refine q2.bind.imp fun r g3 H3 st3 gr3 sb3 so3 q3 v rv => ?_
  have R3 := R2.grow gr3 sb3 so3
  obtain ⟨k, rfl, q4⟩ := blM_val q3.bind sb3 so3
  have : RepV F.K F.pa g3 v (.bl k) := rv
  refine ⟨k, this.bl_inv, ?_⟩
  cases k with
  | false =>
    have q4 : Post F g3 H3 σ ((pure (.val (.bl false)) : M RV) st3) _ := q4
    exact (q4.pure sb3 so3) _ (.bl _)
  | true =>
    have q4 : Post F g3 H3 σ ((fc ρ >>= fun z => h' e z) st3) _ := q4
    refine tQ.use R3 q4 fun z g4 H4 st4 w gr4 R4 rz q5 => ?_
    exact ok' g4 H4 σ st4 y w e z Q R4.sub R4.sto (ry.grow (gr3.trans gr4)) rz (q5.imp fun r g' H' _ _ _ _ h v rv => h v (rv.base (gr1.trans (gr2.trans (gr3.trans gr4)))))
theorem pe_chn {op op' : CmpOp} {r r' : R2} {h h' : D → D → M RV} {fa fb fc : Ev → M D} (ho : OpR X (compareOp op) r) (ho' : OpR X (compareOp op') r') (ok : Ok2 F r h) (ok' : Ok2 F r' h') (ha : PE X a (tQ F fa)) (hb : PE X b (tQ F fb)) (hc : PE X c (tQ F fc))
    (hm : lastMarks [op, op'] [b, c] = false) : PE X (.Compare a [op, op'] [b, c] pos) (tR F (chn h h' fa fb fc)) :=
  PE.mono (fun _ _ _ q => chn_mono ok ok' q) (pe_chain ho ho' ha hb hc hm)
theorem pt_chn {op op' : CmpOp} {r r' : R2} {h h' : D → D → M RV} {fa fb fc : Ev → M D} (ho : OpR X (compareOp op) r) (ho' : OpR X (compareOp op') r') (ok : Ok2 F r h) (ok' : Ok2 F r' h') (ha : PE X a (tQ F fa)) (hb : PE X b (tQ F fb)) (hc : PE X c (tQ F fc))
    (hm : lastMarks [op, op'] [b, c] = false) : PT X (.Compare a [op, op'] [b, c] pos) (tT F (tstE (chn h h' fa fb fc))) := by
  refine PT.mono (fun σ H Q ⟨g, ρ, st, R, q⟩ => ?_) (pt_chain ho ho' ha hb hc hm)
  refine chn_mono ok ok' (tR.useP R q fun d g1 H1 st1 x gr1 R1 rx q1 => ?_)
  obtain ⟨b, rfl, q2⟩ := blM_val q1 R1.sub R1.sto
  have : RepV F.K F.pa g1 x (.bl b) := rx
  exact ⟨b, this.bl_inv, q2⟩
def notT (f : Ev → M Bool) : Ev → M Bool := fun ρ => do let b ← f ρ; pure (!b)
def andT (f h : Ev → M Bool) : Ev → M Bool := fun ρ => do let b ← f ρ; if b then h ρ else pure false
def orT (f h : Ev → M Bool) : Ev → M Bool := fun ρ => do let b ← f ρ; if b then pure true else h ρ
theorem pt_notT {f : Ev → M Bool} (p : PT X a (tT F f)) : PT X (.UnaryOp .Not a pos) (tT F (notT f)) := by
  refine PT.mono (fun σ H Q ⟨g, ρ, st, R, q⟩ => ?_) (pt_not p)
  exact tT.use R q fun d g1 H1 st1 gr1 R1 q1 => q1.pure R1.sub R1.sto
theorem tT_imp {f : Ev → M Bool} {σ : L2.St} {H : Hp} {g : Gh} {ρ : Ev} {st : Store} {Q : Bool → Hp → Prop} (R : SRel F g H σ ρ st) (q : Post F g H σ (f ρ st) fun b g' H' _ => Q b H') : tT F f σ H Q := ⟨g, ρ, st, R, q⟩
theorem pw_andT {f h : Ev → M Bool} (p : PT X a (tT F f)) (r : PW X (.BoolOp .And (b :: rest) pos) (tT F h)) : PW X (.BoolOp .And (a :: b :: rest) pos) (tT F (andT f h)) := by
  refine PW.mono (fun σ H Q ⟨g, ρ, st, R, q⟩ => ?_) (pw_and p r)
  refine tT.use R q fun d g1 H1 st1 gr1 R1 q1 => ?_
  cases d with
  | true => exact iteT (tT_imp R1 q1)
  | false => exact iteF ((q1 : Post F g1 H1 σ ((pure false : M Bool) st1) _).pure R1.sub R1.sto)
theorem pw_orT {f h : Ev → M Bool} (p : PT X a (tT F f)) (r : PW X (.BoolOp .Or (b :: rest) pos) (tT F h)) : PW X (.BoolOp .Or (a :: b :: rest) pos) (tT F (orT f h)) := by
  refine PW.mono (fun σ H Q ⟨g, ρ, st, R, q⟩ => ?_) (pw_or p r)
  refine tT.use R q fun d g1 H1 st1 gr1 R1 q1 => ?_
  cases d with
  | false => exact iteF (tT_imp R1 q1)
  | true => exact iteT ((q1 : Post F g1 H1 σ ((pure true : M Bool) st1) _).pure R1.sub R1.sto)
/-! ### and, or as values -/
def orV (f h : Ev → M RV) : Ev → M RV := fun ρ => do let r ← f ρ; let k ← truM r.d; if k then pure (.val r.d) else h ρ
def andV (f h : Ev → M RV) : Ev → M RV := fun ρ => do let r ← f ρ; let k ← truM r.d; if k then h ρ else pure (.val r.d)
def orD (f : Ev → M D) (h : Ev → M D) : Ev → M D := fun ρ => do let d ← f ρ; let k ← truM d; if k then pure d else h ρ
def andD (f : Ev → M D) (h : Ev → M D) : Ev → M D := fun ρ => do let d ← f ρ; let k ← truM d; if k then h ρ else pure d
theorem truM_val {g : Gh} {H : Hp} {σ : L2.St} {st : Store} {d : D} {k : Bool → Gh → Hp → Store → Prop} (q : Post F g H σ (truM d st) k) (sb : Sub g H) (so : StoR F.K F.pa g H st) : ∃ b, truO d = some b ∧ k b g H st := by
  unfold truM at q
  cases h : truO d with
  | none => rw [h] at q; exact q.elim
  | some b => rw [h] at q; exact ⟨b, rfl, q.pure sb so⟩
theorem tE_imp {f : Ev → M D} {σ : L2.St} {H : Hp} {g : Gh} {ρ : Ev} {st : Store} {Q : VK} (R : SRel F g H σ ρ st) (q : Post F g H σ (f ρ st) fun d g' H' _ => ∀ v, RepV F.K F.pa g' v d → Q v H') : tE F f σ H Q := ⟨g, ρ, st, R, q⟩
theorem pe_orD (hK : X.K = F.K) {f h : Ev → M D} (p : PE X a (tE F f)) (r : PE X (.BoolOp .Or (b :: rest) pos) (tE F h)) : PE X (.BoolOp .Or (a :: b :: rest) pos) (tE F (orD f h)) := by
  refine PE.mono (fun σ H Q ⟨g, ρ, st, R, q⟩ => ?_) (pe_orT p r)
  refine tE.use R q fun d g1 H1 st1 x gr1 R1 rx q1 => ?_
  obtain ⟨k, hk, q2⟩ := truM_val q1.bind R1.sub R1.sto
  refine ⟨k, by rw [hK]; exact tru_of R1.sub hk (.inl rx), ?_⟩
  cases k with
  | true => exact iteT (((q2 : Post F g1 H1 σ ((pure d : M D) st1) _).pure R1.sub R1.sto) x rx)
  | false => exact iteF (tE_imp R1 q2)
theorem pe_andD (hK : X.K = F.K) {f h : Ev → M D} (p : PE X a (tE F f)) (r : PE X (.BoolOp .And (b :: rest) pos) (tE F h)) : PE X (.BoolOp .And (a :: b :: rest) pos) (tE F (andD f h)) := by
  refine PE.mono (fun σ H Q ⟨g, ρ, st, R, q⟩ => ?_) (pe_andT p r)
  refine tE.use R q fun d g1 H1 st1 x gr1 R1 rx q1 => ?_
  obtain ⟨k, hk, q2⟩ := truM_val q1.bind R1.sub R1.sto
  refine ⟨k, by rw [hK]; exact tru_of R1.sub hk (.inl rx), ?_⟩
  cases k with
  | false => exact iteF (((q2 : Post F g1 H1 σ ((pure d : M D) st1) _).pure R1.sub R1.sto) x rx)
  | true => exact iteT (tE_imp R1 q2)
/-! ### a if t else b -/
def ifR (t : Ev → M Bool) (f h : Ev → M RV) : Ev → M RV := fun ρ => do let k ← t ρ; if k then f ρ else h ρ
theorem tR_imp {f : Ev → M RV} {σ : L2.St} {H : Hp} {g : Gh} {ρ : Ev} {st : Store} {Q : VK} (R : SRel F g H σ ρ st) (q : Post F g H σ (f ρ st) fun r g' H' _ => ∀ v, RVR F.K F.pa H g' H' v r → Q v H') : tR F f σ H Q := ⟨g, ρ, st, R, q⟩
theorem tR_base {f : Ev → M RV} {σ : L2.St} {H H0 : Hp} {g g0 : Gh} {ρ : Ev} {st : Store} {Q : VK} (gr : Grow g0 H0 g H) (R : SRel F g H σ ρ st) (q : Post F g H σ (f ρ st) fun r g' H' _ => ∀ v, RVR F.K F.pa H0 g' H' v r → Q v H') : tR F f σ H Q :=
  ⟨g, ρ, st, R, q.imp fun r g' H' _ _ _ _ h v rv => h v (rv.base gr)⟩
theorem pe_ifR {t : Ev → M Bool} {f h : Ev → M RV} (pt : PT X c (tT F t)) (pa : PE X a (tR F f)) (pb : PE X b (tR F h)) : PE X (.IfExp c a b pos) (tR F (ifR t f h)) := by
  refine PE.mono (fun σ H Q ⟨g, ρ, st, R, q⟩ => ?_) (pe_ifExp pt pa pb)
  refine tT.use R q fun d g1 H1 st1 gr1 R1 q1 => ?_
  cases d with
  | true => exact iteT (tR_base gr1 R1 q1)
  | false => exact iteF (tR_base gr1 R1 q1)
def ifT (t f h : Ev → M Bool) : Ev → M Bool := fun ρ => do let k ← t ρ; if k then f ρ else h ρ
/-! ### items -/
def plainS : Expr → Bool
  | .Slice .. => false
  | _ => true
theorem plainS_ix (h : plainS e = true) : PlainIx e := by
  intro o i
  cases e <;> first | rfl | (exact absurd h (by simp [plainS]))
theorem pe_ix2 (hK : X.K = F.K) {fa fb : Ev → M D} (hs : plainS b = true) (ha : PE X a (tQ F fa)) (hb : PE X b (tQ F fb)) : PE X (.Subscript a b pos) (tR F (op2 ixM fa fb)) := by
  have := pe_ix (pos := pos) ix_A ha hb (plainS_ix hs)
  rw [hK] at this
  exact PE.mono (fun _ _ _ q => op2_mono ok_ix q) this
/-! ### dicts with text keys: the store -/
def getM (k : Str) : D → M D
  | .cel i => fun st => match st[i]? with
    | some kvs => match kvs.lookup k with
      | some d => .ok d st
      | none => .stuck
    | none => .stuck
  | _ => stuck
theorem lookup_val {K : PySem.W.Frag} {pa : PAd} {g : Gh} {k : Str} : ∀ {ps : List (Key × V)} {kvs : Cel} {d : D}, CelR K pa g ps kvs → kvs.lookup k = some d → ∃ v, valV ps (Sum.inr k) = some v ∧ RepV K pa g v d
  | [], [], d, _, h => by simp at h
  | [], p :: kvs, d, c, h => by have := c.1; simp at this
  | p :: ps, [], d, c, h => by simp at h
  | (kp, v) :: ps, (kq, d') :: kvs, d, c, h => by
    obtain ⟨c1, c2⟩ := c
    simp only [List.map_cons, List.cons.injEq] at c1
    obtain ⟨e1, e2⟩ := c1
    have c3 := c2.cons_inv
    by_cases hk : k = kq
    · subst hk
      rw [List.lookup_cons_self] at h
      cases h
      exact ⟨v, valV_pos e1, c3.1⟩
    · have hb : (k == kq) = false := by simpa using hk
      rw [List.lookup_cons, hb] at h
      obtain ⟨w, h1, h2⟩ := lookup_val ⟨e2, c3.2⟩ h
      refine ⟨w, ?_, h2⟩
      rw [valV_neg (fun z => hk (by rw [e1] at z; cases z; rfl))]
      exact h1
def getE (k : Str) (f : Ev → M D) : Ev → M D := fun ρ => do let d ← f ρ; getM k d
theorem pe_getE (hu : X.A.units + 1 < cLine) {k : Str} {j : Nat} {p2 : Pos} {f : Ev → M D} (p : PE X a (tE F f)) : PE X (.Subscript a (.Constant (.str k) j p2) pos) (tE F (getE k f)) := by
  refine PE.mono (fun σ H Q ⟨g, ρ, st, R, q⟩ => ?_) (pe_dget hu p (pe_str (x := k) (j := j) (pos := p2)) (fun _ _ => rfl))
  refine tE.use R q fun d g1 H1 st1 x gr1 R1 rx q1 => ?_
  unfold getM at q1
  cases d with
  | cel i =>
    obtain ⟨ad, rfl, h1⟩ := rx.cel_inv
    cases h2 : st1[i]? with
    | none => simp only [h2] at q1; exact q1.elim
    | some kvs =>
      simp only [h2] at q1
      cases h3 : kvs.lookup k with
      | none => simp only [h3] at q1; exact q1.elim
      | some d =>
        simp only [h3] at q1
        obtain ⟨ps, hp, cr⟩ := R1.sto.at_ i ad kvs h1 h2
        obtain ⟨v, hv, rv⟩ := lookup_val cr h3
        refine ⟨ad, v, rfl, ?_, q1 g1 H1 (Grow.refl _ _) R1.sub R1.sto v rv⟩
        rw [← hv]
        exact DGet.k (k := Sum.inr k) hp
  | _ => exact (q1 : False).elim
end
end Dn

set_option Elab.async false
set_option linter.all false
set_option maxRecDepth 100000
set_option maxHeartbeats 4000000
/-! Den, part E: calls of built-ins. -/
namespace Dn
open PySem PySem.Spec L2

section
variable {F : Fm} {X : Cx} {a b c e : Expr} {es rest : List Expr} {pos p : Pos} {x : Str} {id : String}
def OkC1 (F : Fm) (r : List V → Hp → VK → Prop) (h : D → M RV) : Prop := ∀ (g : Gh) (H : Hp) (σ : L2.St) (st : Store) (v : V) (d : D) (Q : VK), Sub g H → StoR F.K F.pa g H st → RepQ F.K F.pa g H v d →
  (Post F g H σ (h d st) fun rv g' H' _ => ∀ v, RVR F.K F.pa H g' H' v rv → Q v H') → r [v] H Q
def OkC2 (F : Fm) (r : List V → Hp → VK → Prop) (h : D → D → M RV) : Prop := ∀ (g : Gh) (H : Hp) (σ : L2.St) (st : Store) (v w : V) (d e : D) (Q : VK), Sub g H → StoR F.K F.pa g H st → RepQ F.K F.pa g H v d → RepQ F.K F.pa g H w e →
  (Post F g H σ (h d e st) fun rv g' H' _ => ∀ v, RVR F.K F.pa H g' H' v rv → Q v H') → r [v, w] H Q
theorem c1_mono {r : List V → Hp → VK → Prop} {h : D → M RV} {f : Ev → M D} {σ : L2.St} {H : Hp} {Q : VK} (ok : OkC1 F r h) (q : tR F (op1 h f) σ H Q) : tCB r (tCons (tQ F f) tNil) σ H Q := by
  obtain ⟨g, ρ, st, R, q⟩ := q
  refine tQ.use R q fun d g1 H1 st1 v gr1 R1 rv q1 => ?_
  exact ok g1 H1 σ st1 v d Q R1.sub R1.sto rv (q1.imp fun r g' H' _ _ _ _ h v rv => h v (rv.base gr1))
theorem c2_mono {r : List V → Hp → VK → Prop} {h : D → D → M RV} {f f' : Ev → M D} {σ : L2.St} {H : Hp} {Q : VK} (ok : OkC2 F r h) (q : tR F (op2 h f f') σ H Q) : tCB r (tCons (tQ F f) (tCons (tQ F f') tNil)) σ H Q := by
  obtain ⟨g, ρ, st, R, q⟩ := q
  refine tQ.use R q fun d g1 H1 st1 v gr1 R1 rv q1 => ?_
  refine tQ.use R1 q1 fun d' g2 H2 st2 v' gr2 R2 rv' q2 => ?_
  exact ok g2 H2 σ st2 v v' d d' Q R2.sub R2.sto (rv.grow gr2) rv' (q2.imp fun r g' H' _ _ _ _ h v rv => h v (rv.base (gr1.trans gr2)))
theorem pa1 {t : TE} (h : plainE e = true) (p : PE X e t) : PA X [e] (tCons t tNil) := pa_cons p pa_nil (star_cons h X.env)
theorem pa2 {t t' : TE} (h : plainE e = true) (h' : plainE a = true) (p : PE X e t) (p' : PE X a t') : PA X [e, a] (tCons t (tCons t' tNil)) := pa_cons p (pa1 h' p') (star_cons h X.env)
theorem st1 (h : plainE e = true) {pos : Pos} {env : Env} : (backTo pos (starEach [e] env)).any (·.1) = false := star_any fun e' he => by simp at he; subst he; exact h
theorem pe_bi1 {r : List V → Hp → VK → Prop} {h : D → M RV} {f : Ev → M D} (hc : CallR X (.builtin id) r) (ok : OkC1 F r h) (hg : Gl X x) (hm : X.mg x = none) (hv : bootBuiltins x = some (.builtin id)) (hn : x ≠ "__name__") (hd : (x == ("__debug__" : Str)) = false)
    (hp : plainE e = true) (pe : PE X e (tQ F f)) : PE X (.Call (.Name x p) [e] [] pos) (tR F (op1 h f)) :=
  PE.mono (fun _ _ _ q => c1_mono ok q) (pe_callB hc hg hm hv (pa1 hp pe) hn hd (star_cons hp X.env) rfl)
theorem pe_ty1 {r : List V → Hp → VK → Prop} {h : D → M RV} {f : Ev → M D} (hc : CallR X (.type id) r) (ok : OkC1 F r h) (hg : Gl X x) (hm : X.mg x = none) (hv : bootBuiltins x = some (.type id)) (hn : x ≠ "__name__") (hd : (x == ("__debug__" : Str)) = false)
    (hp : plainE e = true) (pe : PE X e (tQ F f)) : PE X (.Call (.Name x p) [e] [] pos) (tR F (op1 h f)) :=
  PE.mono (fun _ _ _ q => c1_mono ok q) (pe_callTy hc hg hm hv (pa1 hp pe) hn hd (star_cons hp X.env) rfl)
theorem pe_bi2 {r : List V → Hp → VK → Prop} {h : D → D → M RV} {f f' : Ev → M D} (hc : CallR X (.builtin id) r) (ok : OkC2 F r h) (hg : Gl X x) (hm : X.mg x = none) (hv : bootBuiltins x = some (.builtin id)) (hn : x ≠ "__name__") (hd : (x == ("__debug__" : Str)) = false)
    (hp : plainE e = true) (hp' : plainE a = true) (pe : PE X e (tQ F f)) (pe' : PE X a (tQ F f')) : PE X (.Call (.Name x p) [e, a] [] pos) (tR F (op2 h f f')) :=
  PE.mono (fun _ _ _ q => c2_mono ok q) (pe_callB hc hg hm hv (pa2 hp hp' pe pe') hn hd (star_cons hp X.env) (st1 hp'))
theorem pe_im2 {r : List V → Hp → VK → Prop} {h : D → D → M RV} {f f' : Ev → M D} (hc : CallR X (.builtin id) r) (ok : OkC2 F r h) (hg : Gl X x) (hm : X.mg x = some (.builtin id)) (hd : (x == ("__debug__" : Str)) = false)
    (hp : plainE e = true) (hp' : plainE a = true) (pe : PE X e (tQ F f)) (pe' : PE X a (tQ F f')) : PE X (.Call (.Name x p) [e, a] [] pos) (tR F (op2 h f f')) :=
  PE.mono (fun _ _ _ q => c2_mono ok q) (pe_callBfun hc hg hm (pa2 hp hp' pe pe') hd (star_cons hp X.env) (st1 hp'))

/-! ### len, abs, int, gcd, list, tuple, all, any, sum -/
def lenM : D → M RV
  | .tup l => retI l.length
  | .lst l => retI l.length
  | .scr l => retI l.length
  | .str x => if lineOk x.length then retI x.length else stuck
  | _ => stuck
theorem ok_len : OkC1 F (fun xs H Q => ∃ x n, xs = [x] ∧ LenV F.K x H n ∧ Q (.int n) H) lenM := by
  intro g H σ st v d Q sb so rv q
  unfold lenM at q
  split at q
  · obtain ⟨a, xs, rfl, h1, r1⟩ := (repq_tup rv).tup_inv
    exact ⟨_, xs.length, rfl, .inr ⟨xs, sb.sqT h1, rfl⟩, by rw [r1.1]; exact post_v sb so q (.int _)⟩
  · obtain ⟨a, xs, rfl, h1, r1⟩ := rv.lst_inv sb
    exact ⟨_, xs.length, rfl, .inl ⟨xs, SqL.of h1, rfl⟩, by rw [r1.1]; exact post_v sb so q (.int _)⟩
  · obtain ⟨a, xs, rfl, h1, r1⟩ := (rv.notlst (fun _ z => by cases z)).scr_inv
    exact ⟨_, xs.length, rfl, .inl ⟨xs, sb.sqL h1, rfl⟩, by rw [r1.1]; exact post_v sb so q (.int _)⟩
  · split at q
    · rename_i h
      rw [repq_str rv]
      exact ⟨_, _, rfl, ⟨lineOk_le h, rfl⟩, post_v sb so q (.int _)⟩
    · exact q.elim
  · exact q.elim
def absM : D → M RV
  | .int i => retI (if i < 0 then -i else i)
  | _ => stuck
theorem ok_abs : OkC1 F (fun xs H Q => ∃ i, xs = [.int i] ∧ Q (.int (if i < 0 then -i else i)) H) absM := by
  intro g H σ st v d Q sb so rv q
  unfold absM at q
  split at q
  · rw [repq_int rv]; exact ⟨_, rfl, post_v sb so q (.int _)⟩
  · exact q.elim
def intM : D → M RV
  | .int i => retI i
  | .bl b => retI (if b then 1 else 0)
  | _ => stuck
theorem ok_int : OkC1 F (fun xs H Q => (∃ i, xs = [.int i] ∧ Q (.int i) H) ∨ ∃ k, xs = [.bl k] ∧ Q (.int (if k then 1 else 0)) H) intM := by
  intro g H σ st v d Q sb so rv q
  unfold intM at q
  split at q
  · rw [repq_int rv]; exact .inl ⟨_, rfl, post_v sb so q (.int _)⟩
  · rw [repq_bl rv]; exact .inr ⟨_, rfl, post_v sb so q (.int _)⟩
  · exact q.elim
def gcdM : D → D → M RV
  | .int i, .int j => retI ((Nat.gcd i.natAbs j.natAbs : Nat) : Int)
  | _, _ => stuck
theorem ok_gcd : OkC2 F rGcd gcdM := by
  intro g H σ st v w d e Q sb so rv rw' q
  unfold gcdM at q
  split at q
  · rw [repq_int rv, repq_int rw']; exact ⟨_, _, rfl, post_v sb so q (.int _)⟩
  · exact q.elim
def listM : D → M RV
  | .tup l => ownM l
  | .lst l => ownM l
  | .scr l => ownM l
  | _ => stuck
theorem ok_list : OkC1 F (fun xs H Q => ∃ p ys, xs = [.ref p] ∧ (SqL F.K H p ys ∨ SqT F.K H p ys) ∧ ∀ l, H l = none → Q (.ref l) (upd H l (.lst ys))) listM := by
  intro g H σ st v d Q sb so rv q
  unfold listM at q
  split at q
  · obtain ⟨a, xs, rfl, h1, r1⟩ := (repq_tup rv).tup_inv
    exact ⟨_, xs, rfl, .inr (sb.sqT h1), (lay_own sb so r1 q).2⟩
  · obtain ⟨a, xs, rfl, h1, r1⟩ := rv.lst_inv sb
    exact ⟨_, xs, rfl, .inl (SqL.of h1), (lay_own sb so r1 q).2⟩
  · obtain ⟨a, xs, rfl, h1, r1⟩ := (rv.notlst (fun _ z => by cases z)).scr_inv
    exact ⟨_, xs, rfl, .inl (sb.sqL h1), (lay_own sb so r1 q).2⟩
  · exact q.elim
def tupleM : D → M RV
  | .tup l => pure (.val (.tup l))
  | .lst l => do let d ← tupM l; pure (.val d)
  | .scr l => do let d ← tupM l; pure (.val d)
  | _ => stuck
theorem ok_tuple : OkC1 F (fun xs H Q => ∃ p ys, xs = [.ref p] ∧ ((SqL F.K H p ys ∧ ∀ l, H l = none → Q (.ref l) (upd H l (.tup ys))) ∨ (SqT F.K H p ys ∧ Q (.ref p) H))) tupleM := by
  intro g H σ st v d Q sb so rv q
  unfold tupleM at q
  split at q
  · obtain ⟨a, xs, rfl, h1, r1⟩ := (repq_tup rv).tup_inv
    exact ⟨_, xs, rfl, .inr ⟨sb.sqT h1, post_v sb so q (.tup' h1 r1)⟩⟩
  · obtain ⟨a, xs, rfl, h1, r1⟩ := rv.lst_inv sb
    exact ⟨_, xs, rfl, .inl ⟨SqL.of h1, (lay_tupR sb so r1 q).2⟩⟩
  · obtain ⟨a, xs, rfl, h1, r1⟩ := (rv.notlst (fun _ z => by cases z)).scr_inv
    exact ⟨_, xs, rfl, .inl ⟨sb.sqL h1, (lay_tupR sb so r1 q).2⟩⟩
  · exact q.elim
def blsO : List D → Option (List Bool)
  | [] => some []
  | .bl b :: r => (blsO r).map (b :: ·)
  | _ :: _ => none
def allM : D → M RV
  | .lst l => match blsO l with | some bs => retB (bs.all _root_.id) | none => stuck
  | _ => stuck
def anyM : D → M RV
  | .lst l => match blsO l with | some bs => retB (bs.any _root_.id) | none => stuck
  | _ => stuck
theorem bls_of {K : PySem.W.Frag} {pa : PAd} {g : Gh} : ∀ {l : List D} {bs : List Bool} {xs : List V}, blsO l = some bs → RepVs K pa g xs l → xs = bs.map V.bl
  | [], bs, xs, h, r => by cases h; exact r.inv_nil
  | .bl b :: l, bs, xs, h, r => by
    obtain ⟨y, ys, rfl, r1, r2⟩ := r.inv_cons
    simp only [blsO] at h
    cases e : blsO l with
    | none => rw [e] at h; cases h
    | some cs =>
      rw [e] at h; cases h
      rw [r1.bl_inv, bls_of e r2]; rfl
  | .non :: _, _, _, h, _ | .int _ :: _, _, _, h, _ | .str _ :: _, _, _, h, _ | .tup _ :: _, _, _, h, _ | .lst _ :: _, _, _, h, _ | .scr _ :: _, _, _, h, _ | .dic _ :: _, _, _, h, _ | .fn _ :: _, _, _, h, _
  | .ty _ :: _, _, _, h, _ | .cel _ :: _, _, _, h, _ | .clo _ :: _, _, _, h, _ | .ins _ _ :: _, _, _, h, _ => by cases h
theorem ok_all : OkC1 F (rAll F.K) allM := by
  intro g H σ st v d Q sb so rv q
  cases d with
  | lst l =>
    unfold allM at q
    cases h : blsO l with
    | none => simp only [h] at q; exact q.elim
    | some bs =>
      simp only [h] at q
      obtain ⟨a, xs, rfl, h1, r1⟩ := rv.lst_inv sb
      obtain rfl := bls_of h r1
      exact ⟨a, bs, rfl, SqL.of h1, post_v sb so q (.bl _)⟩
  | _ => exact (q : False).elim
theorem ok_any : OkC1 F (rAny F.K) anyM := by
  intro g H σ st v d Q sb so rv q
  cases d with
  | lst l =>
    unfold anyM at q
    cases h : blsO l with
    | none => simp only [h] at q; exact q.elim
    | some bs =>
      simp only [h] at q
      obtain ⟨a, xs, rfl, h1, r1⟩ := rv.lst_inv sb
      obtain rfl := bls_of h r1
      exact ⟨a, bs, rfl, SqL.of h1, post_v sb so q (.bl _)⟩
  | _ => exact (q : False).elim
def intsO : List D → Option (List Int)
  | [] => some []
  | .int b :: r => (intsO r).map (b :: ·)
  | _ :: _ => none
def sumM : D → M RV
  | .lst l => match intsO l with | some bs => retI bs.sum | none => stuck
  | _ => stuck
theorem ints_of {K : PySem.W.Frag} {pa : PAd} {g : Gh} : ∀ {l : List D} {bs : List Int} {xs : List V}, intsO l = some bs → RepVs K pa g xs l → xs = bs.map V.int
  | [], bs, xs, h, r => by cases h; exact r.inv_nil
  | .int b :: l, bs, xs, h, r => by
    obtain ⟨y, ys, rfl, r1, r2⟩ := r.inv_cons
    simp only [intsO] at h
    cases e : intsO l with
    | none => rw [e] at h; cases h
    | some cs =>
      rw [e] at h; cases h
      rw [r1.int_inv, ints_of e r2]; rfl
  | .non :: _, _, _, h, _ | .bl _ :: _, _, _, h, _ | .str _ :: _, _, _, h, _ | .tup _ :: _, _, _, h, _ | .lst _ :: _, _, _, h, _ | .scr _ :: _, _, _, h, _ | .dic _ :: _, _, _, h, _ | .fn _ :: _, _, _, h, _
  | .ty _ :: _, _, _, h, _ | .cel _ :: _, _, _, h, _ | .clo _ :: _, _, _, h, _ | .ins _ _ :: _, _, _, h, _ => by cases h
theorem ok_sum : OkC1 F (rSum F.K) sumM := by
  intro g H σ st v d Q sb so rv q
  cases d with
  | lst l =>
    unfold sumM at q
    cases h : intsO l with
    | none => simp only [h] at q; exact q.elim
    | some bs =>
      simp only [h] at q
      obtain ⟨a, xs, rfl, h1, r1⟩ := rv.lst_inv sb
      obtain rfl := ints_of h r1
      exact ⟨a, bs, rfl, SqL.of h1, post_v sb so q (.int _)⟩
  | _ => exact (q : False).elim
def maxM : D → D → M RV
  | .int i, .int j => retI (if j > i then j else i)
  | _, _ => stuck
def minM : D → D → M RV
  | .int i, .int j => retI (if j < i then j else i)
  | _, _ => stuck
theorem ok_max : OkC2 F (fun xs H Q => ∃ i j, xs = [.int i, .int j] ∧ Q (.int (if j > i then j else i)) H) maxM := by
  intro g H σ st v w d e Q sb so rv rw' q
  unfold maxM at q
  split at q
  · rw [repq_int rv, repq_int rw']; exact ⟨_, _, rfl, post_v sb so q (.int _)⟩
  · exact q.elim
theorem ok_min : OkC2 F (fun xs H Q => ∃ i j, xs = [.int i, .int j] ∧ Q (.int (if j < i then j else i)) H) minM := by
  intro g H σ st v w d e Q sb so rv rw' q
  unfold minM at q
  split at q
  · rw [repq_int rv, repq_int rw']; exact ⟨_, _, rfl, post_v sb so q (.int _)⟩
  · exact q.elim

/-! ### repr -/
mutual
inductive DpR (K : PySem.W.Frag) (H : Hp) : V → PyData → Prop
  | non : DpR K H .non .none
  | bl (b : Bool) : DpR K H (.bl b) (.bool b)
  | int (i : Int) : DpR K H (.int i) (.int i)
  | str (x : Str) : DpR K H (.str x) (.str x)
  | lst {a : Addr} {xs : List V} {ds : List PyData} : SqL K H a xs → DpRAll K H xs ds → DpR K H (.ref a) (.list ds)
  | tup {a : Addr} {xs : List V} {ds : List PyData} : SqT K H a xs → DpRAll K H xs ds → DpR K H (.ref a) (.tuple ds)
  | dic {a : Addr} : H a = some (.dK []) → DpR K H (.ref a) (.dict [])
inductive DpRAll (K : PySem.W.Frag) (H : Hp) : List V → List PyData → Prop
  | nil : DpRAll K H [] []
  | cons {v : V} {vs : List V} {d : PyData} {ds : List PyData} : DpR K H v d → DpRAll K H vs ds → DpRAll K H (v :: vs) (d :: ds)
end
/-- the dict of modules stands in the written part -/
def SmK (K : PySem.W.Frag) : Prop := ∃ o, K.lookup sysModules = some o ∧ ∀ vs n, o.data ≠ .seq vs n
section
variable {pins : List (Addr × Obj)} {σ : L2.St} {H : Hp} {s : Shared}
mutual
theorem DpR.reads (I : Inv X pins σ H s) (sm : SmK X.K) : ∀ (d : PyData) (v : V) (u : Value), DpR X.K H v d → RelV v u → ∃ as, Reads s.heap u d as ∧ sysModules ∉ as
  | .none, _, _, h, r => by
    cases h
    cases r
    exact ⟨_, Reads.none, by simp⟩
  | .bool b, _, _, h, r => by
    cases h
    cases r
    exact ⟨_, Reads.bool b, by simp⟩
  | .int i, _, _, h, r => by
    cases h
    obtain ⟨t, rfl⟩ := r
    exact ⟨_, Reads.int i t, by simp⟩
  | .str x, _, _, h, r => by
    cases h
    obtain ⟨t, rfl⟩ := r
    exact ⟨_, Reads.str x t, by simp⟩
  | .list ds, _, _, h, r => by
    cases h with
    | @lst a _ _ hs ha =>
      cases r
      obtain ⟨its, rv, ⟨o, n, ho, hc, _, hd⟩, _⟩ := I.list hs
      obtain ⟨as, hr, hn⟩ := DpR.readsAll I sm ds _ its ha rv
      refine ⟨_, Reads.list ho hc hd hr, fun z => ?_⟩
      rcases List.mem_cons.mp z with z | z
      · obtain ⟨ob, k1, k2⟩ := sm
        have := I.kIn _ _ k1
        rw [z, ho] at this
        cases this
        exact k2 _ _ hd
      · exact hn z
  | .tuple ds, _, _, h, r => by
    cases h with
    | @tup a _ _ hs ha =>
      cases r
      obtain ⟨its, rv, ⟨o, ho, hc, n, hd⟩, _⟩ := I.tuple hs
      obtain ⟨as, hr, hn⟩ := DpR.readsAll I sm ds _ its ha rv
      exact ⟨_, Reads.tuple ho hc hd hr, hn⟩
  | .dict _, _, _, h, r => by
    cases h with
    | @dic a hs =>
      cases r
      obtain ⟨_, hm, vs, kv, o, es, ep, ho, ⟨hc, _⟩, hd, _, hp, _⟩ := dk_of I.hok hs
      cases kv
      have he : es.toList = [] := by
        generalize es.toList = l at hp
        cases hp
        rfl
      refine ⟨_, Reads.dict (kvs := []) ho hc hd (by rw [he]; exact ReadsAll.nil) (by rw [he]; exact ReadsAll.nil), fun z => ?_⟩
      have z : sysModules = a := by simpa using z
      rw [← z] at hm
      simp at hm
theorem DpR.readsAll (I : Inv X pins σ H s) (sm : SmK X.K) : ∀ (ds : List PyData) (vs : List V) (us : List Value), DpRAll X.K H vs ds → Vals vs us → ∃ as, ReadsAll s.heap us ds as ∧ sysModules ∉ as
  | [], _, _, h, r => by
    cases h
    cases r
    exact ⟨_, ReadsAll.nil, by simp⟩
  | d :: ds, _, _, h, r => by
    cases h with
    | cons h1 h2 =>
      cases r with
      | cons r1 r2 =>
        obtain ⟨as, q1, n1⟩ := DpR.reads I sm d _ _ h1 r1
        obtain ⟨bs, q2, n2⟩ := DpR.readsAll I sm ds _ _ h2 r2
        exact ⟨_, ReadsAll.cons q1 q2, fun z => (List.mem_append.mp z).elim n1 n2⟩
end
end
def okR (d : D) : Bool := d.rd && d.py.showable && decide (d.py.depth ≤ 64) && lineOk d.py.shown.length
def reprM (d : D) : M RV := if okR d then pure (.val (.str d.py.shown)) else stuck
mutual
theorem dpR_of {K : PySem.W.Frag} {pa : PAd} {g : Gh} {H : Hp} (sb : Sub g H) : ∀ (d : D) (v : V), d.rd = true → RepV K pa g v d → DpR K H v d.py
  | .non, v, _, r => by rw [r.non_inv]; exact .non
  | .bl b, v, _, r => by rw [r.bl_inv]; exact .bl b
  | .int b, v, _, r => by rw [r.int_inv]; exact .int b
  | .str b, v, _, r => by rw [r.str_inv]; exact .str b
  | .tup l, v, h, r => by
    obtain ⟨a, xs, rfl, h1, r1⟩ := r.tup_inv
    exact .tup (sb.sqT h1) (dpRs_of sb l xs (by simpa [D.rd] using h) r1)
  | .lst l, v, h, r => by
    obtain ⟨a, xs, rfl, h1, r1⟩ := r.lst_inv
    exact .lst (SqL.of (sb _ _ h1)) (dpRs_of sb l xs (by simpa [D.rd] using h) r1)
  | .scr l, v, h, r => by simp [D.rd] at h
  | .dic l, v, h, r => by
    obtain ⟨a, rfl, rfl, h1⟩ := r.dic_inv
    exact .dic (sb _ _ h1)
  | .fn l, v, h, r => by simp [D.rd] at h
  | .ty l, v, h, r => by simp [D.rd] at h
  | .cel l, v, h, r => by simp [D.rd] at h
  | .clo l, v, h, r => by simp [D.rd] at h
  | .ins l _, v, h, r => by simp [D.rd] at h
theorem dpRs_of {K : PySem.W.Frag} {pa : PAd} {g : Gh} {H : Hp} (sb : Sub g H) : ∀ (l : List D) (xs : List V), D.rdAll l = true → RepVs K pa g xs l → DpRAll K H xs (D.pyAll l)
  | [], xs, _, r => by rw [r.inv_nil]; exact .nil
  | d :: l, xs, h, r => by
    obtain ⟨y, ys, rfl, r1, r2⟩ := r.inv_cons
    simp only [D.rdAll, Bool.and_eq_true] at h
    exact .cons (dpR_of sb d y h.1 r1) (dpRs_of sb l ys h.2 r2)
end
theorem dpRq_of {K : PySem.W.Frag} {pa : PAd} {g : Gh} {H : Hp} (sb : Sub g H) {d : D} {v : V} (h : d.rd = true) (r : RepQ K pa g H v d) : DpR K H v d.py := by
  rcases r with r | ⟨a, xs, ds, rfl, rfl, h1, _, r1⟩
  · exact dpR_of sb d v h r
  · exact .lst (SqL.of h1) (dpRs_of sb ds xs (by simpa [D.rd] using h) r1)
def rRepr (K : PySem.W.Frag) : List V → Hp → VK → Prop := fun xs H Q => ∃ x d, xs = [x] ∧ DpR K H x d ∧ d.showable = true ∧ d.depth ≤ 64 ∧ d.shown.length ≤ sizeLine ∧ Q (.str d.shown) H
theorem cr_repr (hg : X.A.guards = some []) (hu : X.A.units + 66 < cLine) (sm : SmK X.K) : CallR X (.builtin "repr") (rRepr X.K) := by
  intro pins s σ H vs us Q I r h
  obtain ⟨x, d, rfl, hd, h1, h3, h4, q⟩ := h
  obtain ⟨u, rfl, ru⟩ := vals1 r
  have fin : ∀ h' tk u, (∀ b o, s.heap.get? b = some o → h'.get? b = some o) → EP X pins σ Q (.str d.shown u) { s with heap := h', toks := tk } := fun h' tk u k => ⟨.str _, H, I.kept k, ⟨_, rfl⟩, q⟩
  obtain ⟨as, rd, hn⟩ := DpR.reads I sm d x u hd ru
  cases hd with
  | non => cases ru; exact PySem.P.repr_of_none ⟨.str _, H, I.tok _, ⟨_, rfl⟩, q⟩
  | bl b => cases ru; exact PySem.P.repr_of_bool ⟨.str _, H, I.tok _, ⟨_, rfl⟩, q⟩
  | int i => obtain ⟨t, rfl⟩ := ru; exact PySem.P.repr_of_int (by simpa [PyData.showable] using h1) ⟨.str _, H, I.tok _, ⟨_, rfl⟩, q⟩
  | str y => obtain ⟨t, rfl⟩ := ru; exact PySem.P.repr_of_str ⟨.str _, H, I.tok _, ⟨_, rfl⟩, q⟩ (by simpa [PyData.shown] using h4)
  | lst hs ha => cases ru; exact PySem.repr_of_reads' rd h1 (fun _ => hn) hg (by omega) (fun _ _ e => e) (fun h' u tk k => fin h' tk u k) h4
  | tup hs ha => cases ru; exact PySem.repr_of_reads' rd h1 (fun _ => hn) hg (by omega) (fun _ _ e => e) (fun h' u tk k => fin h' tk u k) h4
  | dic hs => cases ru; exact PySem.repr_of_reads' rd h1 (fun _ => hn) hg (by omega) (fun _ _ e => e) (fun h' u tk k => fin h' tk u k) h4
theorem ok_repr : OkC1 F (rRepr F.K) reprM := by
  intro g H σ st v d Q sb so rv q
  unfold reprM at q
  split at q
  · rename_i h
    simp only [okR, Bool.and_eq_true, decide_eq_true_eq] at h
    exact ⟨v, d.py, rfl, dpRq_of sb h.1.1.1 rv, h.1.1.2, h.1.2, lineOk_le h.2, post_v sb so q (.str _)⟩
  · exact q.elim
/-- {} -/
theorem kDic : PE X (.Dict [] [] pos) (tE F (kk (.dic []))) := PE.mono (fun σ H Q ⟨g, ρ, st, R, q⟩ p hp => q (g.put p (.dK [])) _ (grow_put R.sub hp) (sub_put R.sub) (sto_put R.sto R.sub hp) _ (.dic0 upd_same)) pe_dnewK
/-! ### isinstance -/
def tyO : D → Option String
  | .non => some "NoneType" | .bl _ => some "bool" | .int _ => some "int" | .str _ => some "str" | .tup _ => some "tuple" | .lst _ => some "list" | .cel _ => some "dict" | .dic _ => some "dict"
  | _ => none
def isaB (a b : String) : Bool := a == b || (a == "bool" && b == "int")
def tyKnown (b : String) : Bool := b == "int" || b == "bool" || b == "str" || b == "tuple" || b == "list" || b == "dict"
def isaM (ts : List String) (d : D) : M RV := match tyO d with
  | some a => if ts.all tyKnown then retB (ts.any (isaB a)) else stuck
  | none => stuck
theorem kit_known {K : PySem.W.Frag} {d : D} {a b : String} (h : tyO d = some a) (hb : tyKnown b = true) : PySem.W.kitOne K (.type a) (.type b) = some (isaB a b) := by
  have ha : a = "NoneType" ∨ a = "bool" ∨ a = "int" ∨ a = "str" ∨ a = "tuple" ∨ a = "list" ∨ a = "dict" := by
    cases d <;> simp [tyO] at h <;> simp [← h]
  have hb' : b = "int" ∨ b = "bool" ∨ b = "str" ∨ b = "tuple" ∨ b = "list" ∨ b = "dict" := by
    simp [tyKnown] at hb
    rcases hb with ((((hb | hb) | hb) | hb) | hb) | hb <;> simp [hb]
  refine kit_ty ?_
  rcases ha with rfl | rfl | rfl | rfl | rfl | rfl | rfl <;> rcases hb' with rfl | rfl | rfl | rfl | rfl | rfl <;> decide +kernel
theorem kit_any {K : PySem.W.Frag} {d : D} {a : String} (h : tyO d = some a) : ∀ {ts : List String}, ts.all tyKnown = true → PySem.W.kitAny K (.type a) (ts.map Value.type) = some (ts.any (isaB a))
  | [], _ => rfl
  | t :: ts, hk => by
    simp only [List.all_cons, Bool.and_eq_true] at hk
    rw [List.map_cons]
    refine kitAny_cons (kit_known h hk.1) (fun hb => ?_) (fun hb => ?_)
    · rw [List.any_cons, hb, Bool.false_or]; exact kit_any h hk.2
    · rw [List.any_cons, hb, Bool.true_or]
theorem tyX_of {g : Gh} {H : Hp} {st : Store} {d : D} {a : String} {v : V} (h : tyO d = some a) (sb : Sub g H) (so : StoR F.K F.pa g H st) (r : RepQ F.K F.pa g H v d) : TyX F.K H v (.type a) := by
  cases d with
  | non => cases h; rw [repq_non r]; exact .base .non
  | bl b => cases h; rw [repq_bl r]; exact .base (.bl _)
  | int b => cases h; rw [repq_int r]; exact .base (.int _)
  | str b => cases h; rw [repq_str r]; exact .base (.str _)
  | tup l =>
    cases h
    obtain ⟨a, xs, rfl, h1, r1⟩ := (repq_tup r).tup_inv
    rcases sb.sqT h1 with (h2 | ⟨o, h2⟩) | ⟨o, its, n, h2, h3, _⟩
    · exact .base (.tup h2)
    · exact .fTuple h2
    · exact .kTuple h2 h3
  | lst l =>
    cases h
    obtain ⟨a, xs, rfl, h1, r1⟩ := r.lst_inv sb
    exact .base (.lst h1)
  | cel i =>
    cases h
    obtain ⟨a, rfl, h1⟩ := (r.notlst (fun _ z => by cases z)).cel_inv
    have hi : i < st.length := by rw [← so.len]; exact (List.getElem?_eq_some_iff.mp h1).1
    obtain ⟨ps, hp, _⟩ := so.at_ i a st[i] h1 (by simp [hi])
    exact .base (.dK hp)
  | dic l =>
    cases h
    obtain ⟨a, rfl, _, h1⟩ := (r.notlst (fun _ z => by cases z)).dic_inv
    exact .base (.dK (sb _ _ h1))
  | _ => cases h
theorem isaM_cases {g : Gh} {H : Hp} {σ : L2.St} {st : Store} {ts : List String} {d : D} {k : RV → Gh → Hp → Store → Prop} (q : Post F g H σ (isaM ts d st) k) (sb : Sub g H) (so : StoR F.K F.pa g H st) :
    ∃ a, tyO d = some a ∧ ts.all tyKnown = true ∧ k (.val (.bl (ts.any (isaB a)))) g H st := by
  unfold isaM at q
  cases h : tyO d with
  | none => rw [h] at q; exact q.elim
  | some a =>
    rw [h] at q
    cases hk : ts.all tyKnown with
    | false => simp only [hk] at q; exact q.elim
    | true => simp only [hk] at q; exact ⟨a, rfl, rfl, (q : Post F g H σ ((retB (ts.any (isaB a))) st) k).pure sb so⟩
theorem pe_isa1 (hK : X.K = F.K) {T : Str} {id : String} {p1 p2 : Pos} {f : Ev → M D} (hg : Gl X "isinstance") (hm : X.mg "isinstance" = none) (hT : PE X (.Name T p2) (tC (.ty id))) (hp : plainE e = true) (pe : PE X e (tQ F f)) :
    PE X (.Call (.Name "isinstance" p1) [e, .Name T p2] [] pos) (tR F (op1 (isaM [id]) f)) := by
  refine PE.mono (fun σ H Q ⟨g, ρ, st, R, q⟩ => ?_) (pe_callB call_isi hg hm (by decide +kernel) (pa2 hp rfl pe hT) (by decide) (by decide) (star_cons hp X.env) rfl)
  refine tQ.use R q fun d g1 H1 st1 v gr1 R1 rv q1 => ?_
  obtain ⟨a, h1, h2, h3⟩ := isaM_cases q1 R1.sub R1.sto
  refine ⟨v, .ty id, .type a, .type id, _, rfl, .ty id, by rw [hK]; exact tyX_of h1 R1.sub R1.sto rv, kit_known h1 (by simpa using h2), h3 _ ?_⟩
  have : isaB a id = [id].any (isaB a) := by simp
  rw [this]; exact .bl _
theorem paired_ty : ∀ ts : List String, Paired ClsV (ts.map V.ty) (ts.map Value.type)
  | [] => .nil
  | t :: ts => .cons (.ty t) (paired_ty ts)
theorem pe_isaT (hK : X.K = F.K) {ts : List String} {tes : List Expr} {k : Nat} {p1 p2 : Pos} {f : Ev → M D} (hl : ts.length ≤ 8) (hg : Gl X "isinstance") (hm : X.mg "isinstance" = none) (hT : PA X tes (fun _ H Q => Q (ts.map V.ty) H)) (hp : plainE e = true) (pe : PE X e (tQ F f)) :
    PE X (.Call (.Name "isinstance" p1) [e, .Tuple tes k p2] [] pos) (tR F (op1 (isaM ts) f)) := by
  refine PE.mono (fun σ H Q ⟨g, ρ, st, R, q⟩ => ?_) (pe_callB call_isiT hg hm (by decide +kernel) (pa2 hp rfl pe (pe_tup hT)) (by decide) (by decide) (star_cons hp X.env) rfl)
  refine tQ.use R q fun d g1 H1 st1 v gr1 R1 rv q1 => ?_
  refine ⟨by rw [List.length_map, sizeLine_eq]; omega, fun p hp => ?_⟩
  have gr2 : Grow g1 H1 g1 (upd H1 p (.tup (ts.map V.ty))) := ⟨Le.refl _, fun _ _ h => .inl h, fun _ h => .inl h, fun a u h _ _ => by rw [upd_ne (ne_of_none h hp)]; exact h, fun a u h => ⟨u, by rw [upd_ne (ne_of_none h hp)]; exact h⟩⟩
  have sb2 : Sub g1 (upd H1 p (.tup (ts.map V.ty))) := fun a u h => by rw [upd_ne (ne_of_none (R1.sub a u h) hp)]; exact R1.sub a u h
  have so2 : StoR F.K F.pa g1 (upd H1 p (.tup (ts.map V.ty))) st1 := R1.sto.keepAll (calm_new hp) fun a ha => upd_ne fun e => R1.sto.notNew hp (by rw [← e]; exact ha)
  obtain ⟨a, h1, h2, h3⟩ := isaM_cases (q1.grow gr2) sb2 so2
  exact ⟨v, p, ts.map V.ty, .type a, ts.map Value.type, _, rfl, upd_same, paired_ty ts, by rw [hK]; exact tyX_of h1 sb2 so2 (rv.grow gr2), kit_any h1 h2, h3 _ (.bl _)⟩

/-! ### x.bit_length() -/
def bitsM : D → M RV
  | .int i => retI (Builtin.Int.intBits i : Nat)
  | _ => stuck
def plainB : Expr → Bool
  | .Call .. => false
  | _ => true
theorem attr_plain {f : Str} {env : Env} {w : Sem Value} (h : plainB e = true) : attributeBase e f env w = w := by
  cases e <;> first | rfl | (exact absurd h (by simp [plainB]))
theorem attr_call {x : Str} {p pos : Pos} {a : Expr} {es : List Expr} {ks : List Keyword} {f : Str} {env : Env} {w : Sem Value} : attributeBase (.Call (.Name x p) (a :: es) ks pos) f env w = w := rfl
theorem pe_bitsE {apos : Pos} {f : Ev → M D} (hb : attributeBase e "bit_length" X.env (eval e X.env) = eval e X.env) (hl : (apos.endLine == pos.line) = true) (pe : PE X e (tQ F f)) : PE X (.Call (.Attribute e "bit_length" apos) [] [] pos) (tR F (op1 bitsM f)) := by
  refine PE.mono (fun σ H Q ⟨g, ρ, st, R, q⟩ => ?_) (pe_bits pe hb hl)
  refine tQ.use R q fun d g1 H1 st1 v gr1 R1 rv q1 => ?_
  cases d with
  | int i => exact ⟨i, repq_int rv, post_v R1.sub R1.sto (q1.imp fun r g' H' _ _ _ _ h v rv => h v (rv.base gr1)) (.int _)⟩
  | _ => exact (q1 : False).elim
end
end Dn

set_option Elab.async false
set_option linter.all false
set_option maxRecDepth 100000
set_option maxHeartbeats 4000000
/-! Den, part F: what is walked, list comprehensions. -/
namespace Dn
open PySem PySem.Spec L2

/-! ### slots set, wiped -/
def wipeE (ρ : Ev) : List Nat → Ev
  | [] => ρ
  | v :: vs => (wipeE ρ vs).set v .un
theorem wipeE_length (ρ : Ev) : ∀ vs, (wipeE ρ vs).length = ρ.length
  | [] => rfl
  | v :: vs => by unfold wipeE; rw [List.length_set, wipeE_length ρ vs]
section
variable {F : Fm} {g : Gh} {H : Hp} {σ : L2.St} {ρ : Ev} {st : Store}
theorem join_set_self {i : Nat} {v : Option V} (h : i < σ.length) : (σ.set i v)[i]?.join = v := by
  rw [List.getElem?_set_self h]; rfl
theorem join_set_ne {i j : Nat} {v : Option V} (h : i ≠ j) : (σ.set i v)[j]?.join = σ[j]?.join := by
  rw [List.getElem?_set_ne h]
/-- a slot is set to what holds no list of its own -/
theorem SRel.set (R : SRel F g H σ ρ st) {i : Nat} {o : Option V} {s : Slot} (hi : i < ρ.length) (hs : SlotR F g H o s) (hn : ∀ ds, s ≠ .own ds) : SRel F g H (σ.set i o) (ρ.set i s) st := by
  have hi' : i < σ.length := by rw [R.len]; exact hi
  refine ⟨R.gr, R.sub, R.sto, by simpa using R.len, fun j s' h => ?_, fun j k a ds es hjk h1 h2 h3 h4 => ?_⟩
  · by_cases hj : i = j
    · subst hj
      rw [List.getElem?_set_self hi] at h
      cases h
      rw [join_set_self hi']
      exact hs
    · rw [List.getElem?_set_ne hj] at h
      rw [join_set_ne hj]
      exact R.sl j s' h
  · have ne : ∀ {m : Nat} {l}, (ρ.set i s)[m]? = some (.own l) → i ≠ m := fun {m l} h e => by
      subst e
      rw [List.getElem?_set_self hi] at h
      cases h
      exact hn _ rfl
    have n1 := ne h1
    have n2 := ne h2
    rw [List.getElem?_set_ne n1] at h1
    rw [List.getElem?_set_ne n2] at h2
    rw [join_set_ne n1] at h3
    rw [join_set_ne n2] at h4
    exact R.sep j k a ds es hjk h1 h2 h3 h4
theorem SRel.setV (R : SRel F g H σ ρ st) {i : Nat} {v : V} {d : D} (hi : i < ρ.length) (r : RepV F.K F.pa g v d) : SRel F g H (σ.set i (some v)) (ρ.set i (.val d)) st :=
  R.set hi ⟨v, rfl, r⟩ (fun _ z => by cases z)
theorem SRel.out (R : SRel F g H σ ρ st) {i : Nat} {o : Option V} {s : Slot} (hi : ¬ i < ρ.length) : SRel F g H (σ.set i o) (ρ.set i s) st := by
  have hl := R.len
  rw [List.set_eq_of_length_le (l := σ) (by omega), List.set_eq_of_length_le (l := ρ) (by omega)]
  exact R
theorem SRel.wipe (R : SRel F g H σ ρ st) : ∀ vs, SRel F g H (L2.wipe σ vs) (wipeE ρ vs) st
  | [] => R
  | v :: vs => by
    have R' := R.wipe vs
    unfold L2.wipe wipeE
    by_cases hi : v < (wipeE ρ vs).length
    · exact R'.set hi trivial (fun _ z => by cases z)
    · exact R'.out hi
theorem wipe_get (σ : L2.St) (j : Nat) : ∀ vs, (L2.wipe σ vs)[j]? = if j ∈ vs then (if j < σ.length then some none else none) else σ[j]?
  | [] => by simp [L2.wipe]
  | v :: vs => by
    unfold L2.wipe
    by_cases hj : v = j
    · subst hj
      rw [List.getElem?_set_self', wipe_get σ v vs]
      by_cases h : v < σ.length
      · by_cases h2 : v ∈ vs <;> simp [h, h2]
      · have : σ[v]? = none := List.getElem?_eq_none (by omega)
        by_cases h2 : v ∈ vs <;> simp [h, h2, this]
    · rw [List.getElem?_set_ne hj, wipe_get σ j vs]
      have : j ≠ v := fun e => hj e.symm
      by_cases h2 : j ∈ vs <;> simp [h2, this]
theorem wipe_eq {σ τ : L2.St} {vs : List Nat} (hl : σ.length = τ.length) (h : ∀ j, j ∉ vs → σ[j]? = τ[j]?) : L2.wipe σ vs = L2.wipe τ vs := by
  apply List.ext_getElem?
  intro j
  rw [wipe_get, wipe_get]
  by_cases hj : j ∈ vs
  · simp [hj, hl]
  · simp [hj, h j hj]
theorem wipe_idem (σ : L2.St) (vs : List Nat) : L2.wipe (L2.wipe σ vs) vs = L2.wipe σ vs :=
  wipe_eq (wipe_length σ vs) fun j hj => by rw [wipe_get]; simp [hj]
theorem wipe_set {σ : L2.St} {vs : List Nat} {i : Nat} {o : Option V} (h : i ∈ vs) : L2.wipe (σ.set i o) vs = L2.wipe σ vs :=
  wipe_eq (by simp) fun j hj => List.getElem?_set_ne (fun e => hj (by rw [← e]; exact h))
theorem SRel.wish (R : SRel F g H σ ρ st) (W : WX) : SRel { F with W := W } g H σ ρ st := ⟨R.gr, R.sub, R.sto, R.len, fun i s h => by
  have := R.sl i s h
  cases s <;> exact this, R.sep⟩
theorem SRel.unwish {W : WX} (R : SRel { F with W := W } g H σ ρ st) : SRel F g H σ ρ st := ⟨R.gr, R.sub, R.sto, R.len, fun i s h => by
  have := R.sl i s h
  cases s <;> exact this, R.sep⟩
end

/-! ### targets: a name, names in a tuple -/
inductive Tg where
  | nm (i : Nat) | tp (is : List Nat)
def setAll : List Nat → List D → Ev → Option Ev
  | [], [], ρ => some ρ
  | i :: is, d :: ds, ρ => if i < ρ.length then setAll is ds (ρ.set i (.val d)) else none
  | _, _, _ => none
def Tg.put : Tg → D → Ev → Option Ev
  | .nm i, d, ρ => if i < ρ.length then some (ρ.set i (.val d)) else none
  | .tp is, .tup ds, ρ => setAll is ds ρ
  | .tp is, .lst ds, ρ => setAll is ds ρ
  | _, _, _ => none
def Tg.slots : Tg → List Nat
  | .nm i => [i]
  | .tp is => is
def Tg.g (K : PySem.W.Frag) : Tg → TG
  | .nm i => gName i
  | .tp is => fun v σ H Q => gTup K is.length (is.foldr (fun i t => gCons (gName i) t) gNil) v σ H Q ∨ gLst K is.length (is.foldr (fun i t => gCons (gName i) t) gNil) v σ H Q
section
variable {F : Fm} {g : Gh} {H : Hp} {σ : L2.St} {ρ ρ' : Ev} {st : Store}
/-- the slots behind a target's store: those named changed -/
def Agree (vs : List Nat) (σ σ' : L2.St) : Prop := σ.length = σ'.length ∧ ∀ j, j ∉ vs → σ'[j]? = σ[j]?
theorem gAll_ok : ∀ {is : List Nat} {ds : List D} {xs : List V} {σ : L2.St} {ρ ρ' : Ev} {Q : L2.St → Hp → Prop}, SRel F g H σ ρ st → RepVs F.K F.pa g xs ds → setAll is ds ρ = some ρ' →
    (∀ σ', Agree is σ σ' → SRel F g H σ' ρ' st → Q σ' H) → (is.foldr (fun i t => gCons (gName i) t) gNil) xs σ H Q
  | [], [], xs, σ, ρ, ρ', Q, R, r, h, q => by
    cases h
    exact ⟨r.inv_nil, q σ ⟨rfl, fun _ _ => rfl⟩ R⟩
  | i :: is, d :: ds, xs, σ, ρ, ρ', Q, R, r, h, q => by
    obtain ⟨y, ys, rfl, r1, r2⟩ := r.inv_cons
    simp only [setAll] at h
    split at h
    · rename_i hi
      refine ⟨y, ys, rfl, ?_⟩
      refine gAll_ok (R.setV hi r1) r2 h fun σ' ag R' => q σ' ⟨by rw [← ag.1]; simp, fun j hj => ?_⟩ R'
      simp only [List.mem_cons, not_or] at hj
      rw [ag.2 j hj.2, List.getElem?_set_ne (Ne.symm hj.1)]
    · cases h
  | [], _ :: _, _, _, _, _, _, _, _, h, _ => by cases h
  | _ :: _, [], _, _, _, _, _, _, _, h, _ => by cases h
theorem setAll_len : ∀ {is : List Nat} {ds : List D} {ρ ρ' : Ev}, setAll is ds ρ = some ρ' → is.length = ds.length
  | [], [], _, _, _ => rfl
  | i :: is, d :: ds, ρ, ρ', h => by
    simp only [setAll] at h
    split at h
    · simp [setAll_len h]
    · cases h
  | [], _ :: _, _, _, h => by cases h
  | _ :: _, [], _, _, h => by cases h
theorem Tg.ok {T : Tg} {d : D} {v : V} {Q : L2.St → Hp → Prop} (R : SRel F g H σ ρ st) (r : RepV F.K F.pa g v d) (h : T.put d ρ = some ρ') (q : ∀ σ', Agree T.slots σ σ' → SRel F g H σ' ρ' st → Q σ' H) : T.g F.K v σ H Q := by
  cases T with
  | nm i =>
    simp only [Tg.put] at h
    split at h
    · rename_i hi
      cases h
      refine q _ ⟨by simp, fun j hj => ?_⟩ (R.setV hi r)
      have : j ≠ i := fun e => hj (by simp [Tg.slots, e])
      rw [List.getElem?_set_ne (Ne.symm this)]
    · cases h
  | tp is =>
    cases d with
    | tup ds =>
      have h : setAll is ds ρ = some ρ' := h
      obtain ⟨a, xs, rfl, h1, r1⟩ := r.tup_inv
      exact .inl ⟨a, xs, rfl, R.sub.sqT h1, by rw [r1.1, setAll_len h], gAll_ok R r1 h q⟩
    | lst ds =>
      have h : setAll is ds ρ = some ρ' := h
      obtain ⟨a, xs, rfl, h1, r1⟩ := r.lst_inv
      exact .inr ⟨a, xs, rfl, SqL.of (R.sub _ _ h1), by rw [r1.1, setAll_len h], gAll_ok R r1 h q⟩
    | _ => exact absurd h (by simp [Tg.put])
end
theorem pgs_all {X : Cx} (hN : X.N.Nodup) : ∀ {is : List Nat} {es : List Expr}, (is.length = es.length) → (∀ (k : Nat) i e, is[k]? = some i → es[k]? = some e → ∃ x p, e = .Name x p ∧ X.N[i]? = some x ∧ Loc X.env.scope x ∧ (X.fn x = true ∨ X.env.scope.names.lookup x = some .local)) →
    PGs X es (is.foldr (fun i t => gCons (gName i) t) gNil)
  | [], [], _, _ => pgs_nil
  | i :: is, e :: es, hl, h => by
    obtain ⟨x, p, rfl, h1, h2, h3⟩ := h 0 i e rfl rfl
    exact pgs_cons (pg_name (i := i) hN h1 h2 h3) (pgs_all hN (by simpa using hl) fun k i e a b => h (k + 1) i e (by simpa using a) (by simpa using b))
  | [], _ :: _, hl, _ => by simp at hl
  | _ :: _, [], hl, _ => by simp at hl

theorem asg_len : ∀ {es : List Expr} {env : PySem.Env}, (assignEach es env).length = es.length
  | [], _ => rfl
  | e :: es, env => by
    have : (assignEach es env).length = es.length := asg_len
    cases e <;> simp [assignEach, this]
theorem asg_names : ∀ {es : List Expr} {env : PySem.Env}, (∀ e ∈ es, ∃ x p, e = .Name x p) → ∀ b ∈ assignEach es env, b.1 = false
  | [], _, _, b, hb => by cases hb
  | e :: es, env, h, b, hb => by
    obtain ⟨x, p, rfl⟩ := h e (by simp)
    have : assignEach (.Name x p :: es) env = (false, assign (.Name x p) env) :: assignEach es env := rfl
    rw [this] at hb
    rcases List.mem_cons.mp hb with rfl | hb
    · rfl
    · exact asg_names (fun e he => h e (by simp [he])) b hb
theorem asg_star {es : List Expr} {env : PySem.Env} (h : ∀ e ∈ es, ∃ x p, e = .Name x p) : (assignEach es env).findIdx? (·.1) = none := by
  rw [List.findIdx?_eq_none_iff]
  exact fun b hb => asg_names h b hb
/-- a target of the tree and of ours -/
def TgOk (X : Cx) (t : Expr) : Tg → Prop
  | .nm i => ∃ x p, t = .Name x p ∧ X.N[i]? = some x ∧ Loc X.env.scope x ∧ (X.fn x = true ∨ X.env.scope.names.lookup x = some .local)
  | .tp is => ∃ es k p, t = .Tuple es k p ∧ is.length = es.length ∧ ∀ (k : Nat) i e, is[k]? = some i → es[k]? = some e → ∃ x p, e = .Name x p ∧ X.N[i]? = some x ∧ Loc X.env.scope x ∧ (X.fn x = true ∨ X.env.scope.names.lookup x = some .local)
theorem pg_T {X : Cx} {t : Expr} {T : Tg} (hc : X.calm = true) (hN : X.N.Nodup) (h : TgOk X t T) : PG X t (T.g X.K) := by
  cases T with
  | nm i =>
    obtain ⟨x, p, rfl, h1, h2, h3⟩ := h
    exact pg_name hN h1 h2 h3
  | tp is =>
    obtain ⟨es, k, p, rfl, hl, h⟩ := h
    have hst : (assignEach es X.env).findIdx? (·.1) = none := asg_star fun e he => by
      obtain ⟨j, hj, rfl⟩ := List.mem_iff_getElem.mp he
      have hj2 : j < is.length := by rw [hl]; exact hj
      obtain ⟨x, p, e, _⟩ := h j is[j] es[j] (by simp [hj2]) (by simp [hj])
      exact ⟨x, p, e⟩
    refine ⟨fun pins s σ H v u Q I r q => ?_⟩
    rcases q with q | q
    · exact (pg_tup hc (pgs_all hN hl h) (by rw [asg_len, hl]) hst).run pins s σ H v u Q I r q
    · exact (pg_lst hc (pgs_all hN hl h) (by rw [asg_len, hl]) hst).run pins s σ H v u Q I r q

/-! ### what is walked -/
/-- J walks ds wherever C holds -/
structure ItD (F : Fm) (C : Gh → Hp → Prop) (J : It) (ds : List D) : Prop where
  stop : ∀ g H i, C g H → Sub g H → ds.length ≤ i → J.stop i H
  go : ∀ g H i, C g H → Sub g H → i < ds.length → J.go i H
  yld : ∀ g H st i x H' d, C g H → Sub g H → StoR F.K F.pa g H st → ds[i]? = some d → J.yld i H x H' → ∃ g', Grow g H g' H' ∧ Sub g' H' ∧ StoR F.K F.pa g' H' st ∧ RepV F.K F.pa g' x d
theorem ItD.imp {F : Fm} {C C' : Gh → Hp → Prop} {J : It} {ds : List D} (h : ItD F C J ds) (c : ∀ g H, C' g H → C g H) : ItD F C' J ds :=
  ⟨fun g H i a => h.stop g H i (c g H a), fun g H i a => h.go g H i (c g H a), fun g H st i x H' d a => h.yld g H st i x H' d (c g H a)⟩
section
variable {F : Fm} {g g1 : Gh} {H H1 : Hp}
theorem rep_at {K : PySem.W.Frag} {pa : PAd} {xs : List V} {ds : List D} {i : Nat} (r : RepVs K pa g xs ds) (h : i < ds.length) : ∃ x, xs[i]? = some x := ⟨xs[i]'(by rw [r.1]; exact h), by simp [r.1, h]⟩
theorem itd_tup {a : Addr} {xs : List V} {ds : List D} (h : SqT F.K g1.Fz a xs) (r : RepVs F.K F.pa g1 xs ds) : ItD F (fun g _ => Le g1 g) (Itt F.K a) ds where
  stop := fun g H i l sb hi => ⟨xs, sb.sqT (sqT_le l.fz h), by rw [r.1]; exact hi⟩
  go := fun g H i l sb hi => by
    obtain ⟨x, hx⟩ := rep_at r hi
    exact ⟨xs, x, sb.sqT (sqT_le l.fz h), hx⟩
  yld := fun g H st i x H' d l sb so hd y => by
    obtain ⟨rfl, y⟩ := y
    have hx := y xs (sb.sqT (sqT_le l.fz h))
    exact ⟨g, Grow.refl _ _, sb, so, (r.le l).2 i x d hx hd⟩
theorem itd_lst {a : Addr} {xs : List V} {ds : List D} (C : Gh → Hp → Prop) (h : ∀ (g : Gh) (H : Hp), C g H → Sub g H → SqL F.K H a xs) (l : ∀ (g : Gh) (H : Hp), C g H → Le g1 g) (r : RepVs F.K F.pa g1 xs ds) : ItD F C (Itl F.K a) ds where
  stop := fun g H i c sb hi => ⟨xs, h g H c sb, by rw [r.1]; exact hi⟩
  go := fun g H i c sb hi => by
    obtain ⟨x, hx⟩ := rep_at r hi
    exact ⟨xs, x, h g H c sb, hx⟩
  yld := fun g H st i x H' d c sb so hd y => by
    obtain ⟨rfl, y⟩ := y
    have hx := y xs (h g _ c sb)
    exact ⟨g, Grow.refl _ _, sb, so, (r.le (l g _ c)).2 i x d hx hd⟩
def rngD (lo : Int) (n : Nat) : List D := (List.range n).map fun i => .int (lo + (i : Nat))
theorem rngD_len {lo : Int} {n : Nat} : (rngD lo n).length = n := by simp [rngD]
theorem itd_rng {lo : Int} {n : Nat} {C : Gh → Hp → Prop} : ItD F C (Itr lo n) (rngD lo n) where
  stop := fun g H i c sb hi => by rw [rngD_len] at hi; exact hi
  go := fun g H i c sb hi => by rw [rngD_len] at hi; exact hi
  yld := fun g H st i x H' d c sb so hd y => by
    obtain ⟨rfl, rfl⟩ := y
    refine ⟨g, Grow.refl _ _, sb, so, ?_⟩
    have hi := (List.getElem?_eq_some_iff.mp hd).1
    have : d = .int (lo + (i : Nat)) := by
      simp only [rngD, List.getElem?_map] at hd
      rw [List.getElem?_range (by simpa [rngD] using hi)] at hd
      simpa using hd.symm
    rw [this]
    exact .int _
end
/-- an iterable's reading; Q: for a comprehension (lists that the frame holds too) -/
structure ItE (F : Fm) (X : Cx) (Qm : Bool) (tg iter : Expr) (q : Ev → M (List D)) : Prop where
  ex : ∃ wi, PI X tg iter wi ∧ ∀ {α : Type} (σ : L2.St) (H : Hp) (g : Gh) (ρ : Ev) (st : Store) (R : It → Hp → Prop) (h : List D → M α) (k : α → Gh → Hp → Store → Prop), SRel F g H σ ρ st → Post F g H σ ((q ρ >>= h) st) k →
    (∀ ds g1 H1 st1 J, Grow g H g1 H1 → SRel F g1 H1 σ ρ st1 → ItD F (fun g H => if Qm = true then Grow g1 H1 g H else Le g1 g) J ds → Post F g1 H1 σ (h ds st1) k → R J H1) → wi σ H R

section
variable {F : Fm} {X : Cx} {tg e a b : Expr} {p pos : Pos}
/-- a list or a tuple -/
theorem pi_seq {l : Expr} {tl : TE} (hl : PE X l tl) : PI X tg l (fun σ H R => tl σ H fun x H1 => ∃ a, x = .ref a ∧ (((∃ xs, SqL X.K H1 a xs) ∧ R (Itl X.K a) H1) ∨ ((∃ xs, SqT X.K H1 a xs) ∧ R (Itt X.K a) H1))) := by
  refine ⟨fun pins s σ H R I h => ?_⟩
  refine thn (hl.run pins s σ H _ I h) fun v s1 ⟨x, H1, I1, r1, q1⟩ => ?_
  obtain ⟨a, e, q⟩ := q1
  subst e
  cases r1
  rcases q with ⟨⟨xs, hq⟩, q⟩ | ⟨⟨xs, hq⟩, q⟩
  · obtain ⟨its, rv, p, hz⟩ := I1.list hq
    refine wpAny_pyIter_list p.isList ?_
    refine ⟨s1.heap.objs.size, [s1.heap.objs.size], _, _, H1, rfl, I1.kept (t' := s1.toks) fun b o e => Heap.get?_push_of_some _ e, turn_list a _, ⟨_, Heap.get?_push_size _ rfl, rfl, rfl⟩, fun b hb => ?_, q⟩
    have e : b = s1.heap.objs.size := by simpa using hb
    subst e
    exact I1.fpOk (Nat.le_refl _) (I1.hok.fresh (Nat.le_refl _))
  · obtain ⟨its, rv, p, hz⟩ := I1.tuple hq
    refine wpAny_pyIter_tuple (show s1.heap.IsTuple a its.toArray from p) ?_
    refine ⟨s1.heap.objs.size, [s1.heap.objs.size], _, _, H1, rfl, I1.kept (t' := s1.toks) fun b o e => Heap.get?_push_of_some _ e, turn_tuple a _, ⟨_, Heap.get?_push_size _ rfl, rfl, rfl⟩, fun b hb => ?_, q⟩
    have e : b = s1.heap.objs.size := by simpa using hb
    subst e
    exact I1.fpOk (Nat.le_refl _) (I1.hok.fresh (Nat.le_refl _))
def seqM : D → M (List D)
  | .tup l => pure l
  | .lst l => pure l
  | .scr l => pure l
  | _ => stuck
def itS (f : Ev → M D) : Ev → M (List D) := fun ρ => do let d ← f ρ; seqM d
theorem tE_Q {f : Ev → M D} {σ : L2.St} {H : Hp} {Q : VK} (h : tE F f σ H Q) : tE F f σ H Q := h
theorem qf {A B : Prop} (h : if false = true then A else B) : B := by simpa using h
/-- for a comprehension -/
theorem it_seqQ (hK : X.K = F.K) {f : Ev → M D} (pe : PE X e (tQ F f)) : ItE F X true tg e (itS f) := by
  refine ⟨_, pi_seq pe, fun σ H g ρ st R h k SR q c => ?_⟩
  have q : Post F g H σ ((f ρ >>= fun d => seqM d >>= h) st) k := by
    have e : (itS f ρ >>= h) st = (f ρ >>= fun d => seqM d >>= h) st := by
      unfold itS
      rw [run_bind, run_bind, run_bind]
      cases f ρ st <;> rfl
    rw [← e]; exact q
  refine tQ.use SR q fun d g1 H1 st1 x gr1 R1 rx q1 => ?_
  rw [hK]
  cases d with
  | tup l =>
    obtain ⟨a, xs, rfl, h1, r1⟩ := (repq_tup rx).tup_inv
    exact ⟨a, rfl, .inr ⟨⟨xs, R1.sub.sqT h1⟩, c l g1 H1 st1 _ gr1 R1 ((itd_tup h1 r1).imp fun g H z => by rw [if_pos rfl] at z; exact z.le) q1⟩⟩
  | lst l =>
    rcases rx with rx | ⟨a, xs, ds, rfl, ed, h1, h2, r1⟩
    · obtain ⟨a, xs, rfl, h1, r1⟩ := rx.lst_inv
      exact ⟨a, rfl, .inl ⟨⟨xs, SqL.of (R1.sub _ _ h1)⟩, c l g1 H1 st1 _ gr1 R1 (itd_lst _ (fun g H z sb => by rw [if_pos rfl] at z; exact SqL.of (sb _ _ (z.le.fz _ _ h1))) (fun g H z => by rw [if_pos rfl] at z; exact z.le) r1) q1⟩⟩
    · cases ed
      exact ⟨a, rfl, .inl ⟨⟨xs, SqL.of h1⟩, c _ g1 H1 st1 _ gr1 R1 (itd_lst _ (fun g H z sb => by rw [if_pos rfl] at z; exact SqL.of (z.keep _ _ h1 h2 (fun ps w => by cases w))) (fun g H z => by rw [if_pos rfl] at z; exact z.le) r1) q1⟩⟩
  | scr l =>
    obtain ⟨a, xs, rfl, h1, r1⟩ := (rx.notlst (fun _ z => by cases z)).scr_inv
    exact ⟨a, rfl, .inl ⟨⟨xs, R1.sub.sqL h1⟩, c l g1 H1 st1 _ gr1 R1 (itd_lst _ (fun g H z sb => by rw [if_pos rfl] at z; exact sb.sqL (sqL_le z.le.fz h1)) (fun g H z => by rw [if_pos rfl] at z; exact z.le) r1) q1⟩⟩
  | _ => exact (q1 : False).elim
/-- for a loop: what stands still -/
theorem it_seqE (hK : X.K = F.K) {f : Ev → M D} (pe : PE X e (tE F f)) : ItE F X false tg e (itS f) := by
  refine ⟨_, pi_seq pe, fun σ H g ρ st R h k SR q c => ?_⟩
  have q : Post F g H σ ((f ρ >>= fun d => seqM d >>= h) st) k := by
    have e : (itS f ρ >>= h) st = (f ρ >>= fun d => seqM d >>= h) st := by
      unfold itS
      rw [run_bind, run_bind, run_bind]
      cases f ρ st <;> rfl
    rw [← e]; exact q
  refine tE.use SR q fun d g1 H1 st1 x gr1 R1 rx q1 => ?_
  rw [hK]
  have nf : ∀ {p : Prop}, (if false = true then p else p) = p := fun {p} => by simp
  cases d with
  | tup l =>
    obtain ⟨a, xs, rfl, h1, r1⟩ := rx.tup_inv
    exact ⟨a, rfl, .inr ⟨⟨xs, R1.sub.sqT h1⟩, c l g1 H1 st1 _ gr1 R1 ((itd_tup h1 r1).imp fun g H z => qf z) q1⟩⟩
  | lst l =>
    obtain ⟨a, xs, rfl, h1, r1⟩ := rx.lst_inv
    exact ⟨a, rfl, .inl ⟨⟨xs, SqL.of (R1.sub _ _ h1)⟩, c l g1 H1 st1 _ gr1 R1 (itd_lst _ (fun g H z sb => SqL.of (sb _ _ ((qf z).fz _ _ h1))) (fun g H z => qf z) r1) q1⟩⟩
  | scr l =>
    obtain ⟨a, xs, rfl, h1, r1⟩ := rx.scr_inv
    exact ⟨a, rfl, .inl ⟨⟨xs, R1.sub.sqL h1⟩, c l g1 H1 st1 _ gr1 R1 (itd_lst _ (fun g H z sb => sb.sqL (sqL_le (qf z).fz h1)) (fun g H z => qf z) r1) q1⟩⟩
  | _ => exact (q1 : False).elim
def rng1M : D → M (List D)
  | .int j => if decide (-(2 ^ 62) ≤ j ∧ j < 2 ^ 62) then pure (rngD 0 j.toNat) else stuck
  | _ => stuck
def rng2M : D → D → M (List D)
  | .int i, .int j => if decide (-(2 ^ 62) ≤ i ∧ i < 2 ^ 62 ∧ -(2 ^ 62) ≤ j ∧ j < 2 ^ 62) then pure (rngD i (j - i).toNat) else stuck
  | _, _ => stuck
def itR1 (f : Ev → M D) : Ev → M (List D) := fun ρ => do let d ← f ρ; rng1M d
def itR2 (f f' : Ev → M D) : Ev → M (List D) := fun ρ => do let d ← f ρ; let e ← f' ρ; rng2M d e
theorem bind_assoc' {α β γ : Type} (f : M α) (h : α → M β) (k : β → M γ) (st : Store) : ((f >>= h) >>= k) st = (f >>= fun a => h a >>= k) st := by
  rw [run_bind, run_bind, run_bind]
  cases f st <;> rfl
theorem it_rng1 {Qm : Bool} {f : Ev → M D} (hg : Gl X "range") (hm : X.mg "range" = none) (hp : plainE a = true) (pe : PE X a (tQ F f)) : ItE F X Qm tg (.Call (.Name "range" p) [a] [] pos) (itR1 f) := by
  refine ⟨_, pi_range1 hg hm (pa1 hp pe) (star_cons hp X.env), fun σ H g ρ st R h k SR q c => ?_⟩
  have q : Post F g H σ ((f ρ >>= fun d => rng1M d >>= h) st) k := by rw [← bind_assoc']; exact q
  refine tQ.use SR q fun d g1 H1 st1 x gr1 R1 rx q1 => ?_
  cases d with
  | int j =>
    simp only [rng1M] at q1
    split at q1
    · rename_i hj
      have hj := of_decide_eq_true hj
      refine ⟨j, by rw [repq_int rx], hj.1, hj.2, ?_⟩
      exact c _ g1 H1 st1 _ gr1 R1 itd_rng q1
    · exact q1.elim
  | _ => exact (q1 : False).elim
theorem it_rng2 {Qm : Bool} {f f' : Ev → M D} (hg : Gl X "range") (hm : X.mg "range" = none) (hp : plainE a = true) (hp' : plainE b = true) (pe : PE X a (tQ F f)) (pe' : PE X b (tQ F f')) : ItE F X Qm tg (.Call (.Name "range" p) [a, b] [] pos) (itR2 f f') := by
  refine ⟨_, pi_range2 hg hm (pa2 hp hp' pe pe') (by rw [star_cons hp, star_cons hp']; rfl) (by rw [star_cons hp']; rfl), fun σ H g ρ st R h k SR q c => ?_⟩
  have q : Post F g H σ ((f ρ >>= fun d => f' ρ >>= fun e => rng2M d e >>= h) st) k := by
    have e : (itR2 f f' ρ >>= h) st = (f ρ >>= fun d => f' ρ >>= fun e => rng2M d e >>= h) st := by
      unfold itR2
      rw [bind_assoc', run_bind, run_bind]
      cases f ρ st with
      | ok d st' => exact bind_assoc' _ _ _ _
      | rz i fs st' => rfl
      | stuck => rfl
    rw [← e]; exact q
  refine tQ.use SR q fun d g1 H1 st1 x gr1 R1 rx q1 => ?_
  refine tQ.use R1 q1 fun e g2 H2 st2 y gr2 R2 ry q2 => ?_
  unfold rng2M at q2
  split at q2
  · split at q2
    · rename_i hj
      have hj := of_decide_eq_true hj
      refine ⟨_, _, by rw [repq_int rx, repq_int ry], hj, ?_⟩
      exact c _ g2 H2 st2 _ (gr1.trans gr2) R2 itd_rng q2
    · exact q2.elim
  · exact q2.elim
end
end Dn

set_option Elab.async false
set_option linter.all false
set_option maxRecDepth 100000
set_option maxHeartbeats 4000000
/-! Den, part G: list comprehensions. -/
namespace Dn
open PySem PySem.Spec L2

def noRz {α : Type} (f : M α) : M α := fun st => match f st with
  | .ok a st' => .ok a st'
  | _ => .stuck
def oCons : Option D → List D → List D
  | some y, ys => y :: ys
  | none, ys => ys
def lcM (bd : D → M (Option D)) : List D → M (List D)
  | [] => pure []
  | d :: r => do let o ← bd d; let ys ← lcM bd r; pure (oCons o ys)
def lcB (T : Tg) (t : Ev → M Bool) (f : Ev → M D) (ρ : Ev) (d : D) : M (Option D) :=
  match T.put d ρ with
  | some ρ' => noRz (do let b ← t ρ'; if b then (do let y ← f ρ'; pure (some y)) else pure none)
  | none => stuck
def compE (q : Ev → M (List D)) (T : Tg) (t : Ev → M Bool) (f : Ev → M D) (vs : List Nat) : Ev → M RV := fun ρ => do
  let ds ← q ρ
  if lineOk ds.length then (do let ys ← lcM (lcB T t f (wipeE ρ vs)) ds; pure (.own ys)) else stuck
theorem Post.noRz {F : Fm} {α : Type} {W : WX} {g : Gh} {H : Hp} {σ σ' : L2.St} {f : M α} {st : Store} {k : α → Gh → Hp → Store → Prop} (p : Post F g H σ (noRz f st) k) : Post { F with W := W } g H σ' (f st) k := by
  unfold Dn.noRz at p
  cases e : f st with
  | ok a st' => rw [e] at p; exact p
  | rz i fs st' => rw [e] at p; exact p.elim
  | stuck => rw [e] at p; exact p
section
variable {F : Fm} {X : Cx} {tg iter elt : Expr} {ifs : List Expr} {scope : Scope} {own : List (Str × Nat)} {pos : Pos}
abbrev Fm.calmW (F : Fm) : Fm := { F with W := fun _ _ _ _ => False }
/-- the block's parts -/
structure Blk (F : Fm) (X : Cx) (tg elt : Expr) (ifs : List Expr) (scope : Scope) (T : Tg) (t : Ev → M Bool) (f : Ev → M D) : Prop where
  hg : ∀ (s : Shared) (H : Hp) (C : Addr) (cl : List (Str × Addr)) (fp : List Addr), TgOk (X.blk s H scope (compEnvC scope cl C X.env) fp) tg T
  ht : ∀ (s : Shared) (H : Hp) (C : Addr) (cl : List (Str × Addr)) (fp : List Addr), PTs (X.blk s H scope (compEnvC scope cl C X.env) fp) ifs (tT F.calmW t)
  he : ∀ (s : Shared) (H : Hp) (C : Addr) (cl : List (Str × Addr)) (fp : List Addr), PE (X.blk s H scope (compEnvC scope cl C X.env) fp) elt (tE F.calmW f)
theorem agree_wipe {T : Tg} {vs : List Nat} {σ σ' : L2.St} (hs : ∀ i ∈ T.slots, i ∈ vs) (ag : Agree T.slots (L2.wipe σ vs) σ') : L2.wipe σ' vs = L2.wipe σ vs := by
  rw [← wipe_idem σ vs]
  exact wipe_eq ag.1.symm fun j hj => ag.2 j fun z => hj (hs j z)
theorem compE_mono {q : Ev → M (List D)} {T : Tg} {t : Ev → M Bool} {f : Ev → M D} {wi : TI} {σ : L2.St} {H : Hp} {Q : VK} {vs : List Nat} (hs : ∀ i ∈ T.slots, i ∈ vs)
    (hi : ∀ {α : Type} (σ : L2.St) (H : Hp) (g : Gh) (ρ : Ev) (st : Store) (R : It → Hp → Prop) (h : List D → M α) (k : α → Gh → Hp → Store → Prop), SRel F g H σ ρ st → Post F g H σ ((q ρ >>= h) st) k →
      (∀ ds g1 H1 st1 J, Grow g H g1 H1 → SRel F g1 H1 σ ρ st1 → ItD F (fun g H => if true = true then Grow g1 H1 g H else Le g1 g) J ds → Post F g1 H1 σ (h ds st1) k → R J H1) → wi σ H R)
    (hq : tR F (compE q T t f vs) σ H Q) : tLc wi (T.g F.K) (tT F.calmW t) (tE F.calmW f) vs σ H Q := by
  obtain ⟨g, ρ, st, R, p⟩ := hq
  refine hi σ H g ρ st _ _ _ R p fun ds g1 H1 st1 J gr1 R1 itd p1 D hD => ?_
  split at p1
  rotate_left
  · exact p1.elim
  rename_i hl
  have hl := lineOk_le hl
  have itd := itd.imp (C' := fun g H => Grow g1 H1 g H) fun g H z => by rw [if_pos rfl]; exact z
  -- the rest, from the state ahead of the loop
  let kk : RV → Gh → Hp → Store → Prop := fun r g' H' _ => ∀ v, RVR F.K F.pa H g' H' v r → Q v H'
  refine ⟨fun i m H' => ∃ (g' : Gh) (st' : Store) (accV : List V) (accD : List Dn.D), m = ds.length - i ∧ i ≤ ds.length ∧ Grow g1 H1 g' H' ∧ Sub g' H' ∧ StoR F.K F.pa g' H' st' ∧ H' D = some (.lst accV) ∧ g'.Fz D = none ∧ D ∉ g'.as ∧ RepVs F.K F.pa g' accV accD ∧ accD.length ≤ i ∧
    Post F g1 H1 σ ((lcM (lcB T t f (wipeE ρ vs)) (ds.drop i) >>= fun ys => (pure (.own (accD ++ ys)) : M RV)) st') kk, ⟨ds.length, g1, st1, [], [], by simp, by simp, ?_, ?_, ?_, upd_same, R1.sub.none hD, R1.sto.notNew hD, RepVs.nil, by simp, p1⟩, ?_⟩
  · exact ⟨Le.refl _, fun _ _ h => .inl h, fun _ h => .inl h, fun a u h _ _ => by rw [upd_ne (ne_of_none h hD)]; exact h, fun a u h => ⟨u, by rw [upd_ne (ne_of_none h hD)]; exact h⟩⟩
  · exact fun a u h => by rw [upd_ne (ne_of_none (R1.sub a u h) hD)]; exact R1.sub a u h
  · exact R1.sto.keepAll (calm_new hD) fun a ha => upd_ne fun e => R1.sto.notNew hD (by rw [← e]; exact ha)
  · rintro i m H' ⟨g', st', accV, accD, rfl, hi, gr', sb', so', hDl, hDz, hDa, rA, hA, p'⟩
    by_cases hlt : i < ds.length
    · refine .inr ⟨itd.go g' H' i gr' sb' hlt, fun H2 => ∃ (g2 : Gh) (st2 : Store) (accV2 : List V) (accD2 : List Dn.D), Grow g1 H1 g2 H2 ∧ Sub g2 H2 ∧ StoR F.K F.pa g2 H2 st2 ∧ H2 D = some (.lst accV2) ∧ g2.Fz D = none ∧ D ∉ g2.as ∧ RepVs F.K F.pa g2 accV2 accD2 ∧ accD2.length ≤ i + 1 ∧
        Post F g1 H1 σ ((lcM (lcB T t f (wipeE ρ vs)) (ds.drop (i + 1)) >>= fun ys => (pure (.own (accD2 ++ ys)) : M RV)) st2) kk,
        fun H2 ⟨g2, st2, accV2, accD2, a1, a2, a3, a4, a5, a6, a7, a8, a9⟩ => ⟨ds.length - (i + 1), by omega, g2, st2, accV2, accD2, rfl, hlt, a1, a2, a3, a4, a5, a6, a7, a8, a9⟩, fun x H2 y => ?_⟩
      have hd : ds[i]? = some ds[i] := by simp [hlt]
      obtain ⟨g2, gr2, sb2, so2, rx⟩ := itd.yld g' H' st' i x H2 _ gr' sb' so' hd y
      have e1 : ds.drop i = ds[i] :: ds.drop (i + 1) := List.drop_eq_getElem_cons hlt
      rw [e1] at p'
      have p' : Post F g1 H1 σ ((lcB T t f (wipeE ρ vs) ds[i] >>= fun o => lcM (lcB T t f (wipeE ρ vs)) (ds.drop (i + 1)) >>= fun ys => (pure (.own (accD ++ oCons o ys)) : M RV)) st') kk := by
        have e : (lcM (lcB T t f (wipeE ρ vs)) (ds[i] :: ds.drop (i + 1)) >>= fun ys => (pure (.own (accD ++ ys)) : M RV)) st' = (lcB T t f (wipeE ρ vs) ds[i] >>= fun o => lcM (lcB T t f (wipeE ρ vs)) (ds.drop (i + 1)) >>= fun ys => (pure (.own (accD ++ oCons o ys)) : M RV)) st' := by
          simp only [lcM]
          rw [bind_assoc', run_bind, run_bind]
          cases lcB T t f (wipeE ρ vs) ds[i] st' with
          | ok o st2 => simp only [bind_assoc']; rfl
          | rz i fs st2 => rfl
          | stuck => rfl
        rw [← e]; exact p'
      have R2 : SRel F g2 H2 σ ρ st' := R1.grow (gr'.trans gr2) sb2 so2
      rw [run_bind] at p'
      cases hput : T.put ds[i] (wipeE ρ vs) with
      | none => unfold lcB at p'; rw [hput] at p'; exact p'.elim
      | some ρ' =>
        have eB : lcB T t f (wipeE ρ vs) ds[i] st' = noRz (do let b ← t ρ'; if b then (do let y ← f ρ'; pure (some y)) else pure none) st' := by unfold lcB; rw [hput]
        rw [eB] at p'
        cases hin : (do let b ← t ρ'; if b then (do let y ← f ρ'; pure (some y)) else pure none : M (Option Dn.D)) st' with
        | rz i fs st2 => unfold noRz at p'; rw [hin] at p'; exact p'.elim
        | stuck => unfold noRz at p'; rw [hin] at p'; exact p'.elim
        | ok o st9 =>
          have p' : Post F g1 H1 σ ((lcM (lcB T t f (wipeE ρ vs)) (ds.drop (i + 1)) >>= fun ys => (pure (.own (accD ++ oCons o ys)) : M RV)) st9) kk := by
            unfold noRz at p'; rw [hin] at p'; exact p'
          refine Tg.ok (R2.wipe vs) rx hput fun σ' ag R3 => ⟨agree_wipe hs ag, ?_⟩
          have p3 : Post F.calmW g2 H2 σ' ((t ρ' >>= fun b => if b then (do let y ← f ρ'; pure (some y)) else pure none : M (Option Dn.D)) st') (fun o' _ _ st3 => o' = o ∧ st3 = st9) := by
            rw [show (t ρ' >>= fun b => if b then (do let y ← f ρ'; pure (some y)) else pure none : M (Option Dn.D)) st' = .ok o st9 from hin]
            exact fun _ _ _ _ _ => ⟨rfl, rfl⟩
          have R3 := R3.wish (fun _ _ _ _ => False)
          have kD : ∀ {g3 : Gh} {H3 : Hp}, Grow g' H' g3 H3 → H3 D = some (.lst accV) ∧ g3.Fz D = none ∧ D ∉ g3.as := fun {g3 H3} gr3 => by
            refine ⟨gr3.keep D _ hDl hDa (fun ps z => by cases z), ?_, fun z => ?_⟩
            · cases q : g3.Fz D with
              | none => rfl
              | some u =>
                rcases gr3.new D u q with z | z
                · rw [hDz] at z; cases z
                · rw [hDl] at z; cases z
            · rcases gr3.newA D z with q | q
              · exact hDa q
              · rw [hDl] at q; cases q
          refine tT.use R3 p3 fun b g3 H3 st3 gr3 R3' p4 => ?_
          cases b with
          | false =>
            refine iteF ?_
            obtain ⟨rfl, rfl⟩ := (p4 : Post F.calmW g3 H3 σ' ((pure none : M (Option Dn.D)) st3) _).pure R3'.sub R3'.sto
            obtain ⟨k1, k2, k3⟩ := kD (gr2.trans gr3)
            exact ⟨g3, st3, accV, accD, gr'.trans (gr2.trans gr3), R3'.sub, R3'.sto, k1, k2, k3, rA.le (gr2.trans gr3).le, by omega, p'⟩
          | true =>
            refine iteT ?_
            have p4 : Post F.calmW g3 H3 σ' ((f ρ' >>= fun y => (pure (some y) : M (Option Dn.D))) st3) _ := p4
            refine tE.use R3' p4 fun d g4 H4 st4 y gr4 R4 ry p5 => ?_
            obtain ⟨rfl, rfl⟩ := (p5 : Post F.calmW g4 H4 σ' ((pure (some d) : M (Option Dn.D)) st4) _).pure R4.sub R4.sto
            have gr5 := gr2.trans (gr3.trans gr4)
            obtain ⟨k1, k2, k3⟩ := kD gr5
            have rA4 := rA.le gr5.le
            refine ⟨accV, k1, ?_, g4, st4, accV ++ [y], accD ++ [d], ?_, ?_, ?_, upd_same, k2, k3, rA4.append (.cons ry .nil), by simp; omega, ?_⟩
            · rw [rA.1]; omega
            · have gg := gr'.trans gr5
              refine ⟨gg.le, gg.new, gg.newA, fun a u h n z => ?_, fun a u h => ?_⟩
              · rw [upd_ne (ne_of_none h hD)]; exact gg.keep a u h n z
              · rw [upd_ne (ne_of_none h hD)]; exact gg.there a u h
            · intro a u h
              rw [upd_ne fun e => by rw [e, k2] at h; cases h]
              exact R4.sub a u h
            · exact StoR.keepAll R4.sto (calm_lst k1) fun a ha => upd_ne fun e => k3 (by rw [← e]; exact ha)
            · have e2 : (fun ys => (pure (RV.own ((accD ++ [d]) ++ ys)) : M RV)) = (fun ys => (pure (.own (accD ++ (d :: ys))) : M RV)) := by
                funext ys; simp
              rw [e2]
              exact p'
    · have e : i = ds.length := by omega
      subst e
      refine .inl ⟨itd.stop g' H' _ gr' sb' (Nat.le_refl _), ?_⟩
      rw [List.drop_length] at p'
      have p' : Post F g1 H1 σ ((pure (.own (accD ++ [])) : M RV) st') kk := p'
      refine p' g' H' gr' sb' so' _ ⟨D, accV, rfl, hDl, by simpa using rA, hDz, hDa, ?_⟩
      cases q : H D with
      | none => rfl
      | some u => obtain ⟨o', z⟩ := gr1.there D u q; rw [hD] at z; cases z
theorem pe_comp {q : Ev → M (List D)} {T : Tg} {t : Ev → M Bool} {f : Ev → M D} (hK : X.K = F.K) (hc : X.calm = true) (hN : X.N.Nodup) (it : ItE F X true tg iter q) (ok : BlkOk X.N X.env.scope scope own) (hs : ∀ i ∈ T.slots, i ∈ own.map (·.2)) (B : Blk F X tg elt ifs scope T t f)
    (hfs : ∀ x, foldedSetIterable iter X.env x = pure x) : PE X (.ListComp elt [⟨tg, iter, ifs, 0⟩] scope pos) (tR F (compE q T t f (own.map (·.2)))) := by
  obtain ⟨wi, hpi, hw⟩ := it.ex
  refine PE.mono (fun σ H Q hq => compE_mono hs hw hq) (pe_lc hc hN hpi ok (fun s H C cl fp => ?_) B.ht B.he hfs)
  have := pg_T (X := X.blk s H scope (compEnvC scope cl C X.env) fp) hc hN (B.hg s H C cl fp)
  rw [← hK]
  exact this
end
end Dn

set_option Elab.async false
set_option linter.all false
set_option maxRecDepth 100000
set_option maxHeartbeats 4000000
/-! Den, part H: statements. -/
namespace Dn
open PySem PySem.Spec L2

inductive RS where
  | nx (ρ : Ev) (st : Store) | ret (r : RV) (st : Store) | brk (ρ : Ev) (st : Store) | ct (ρ : Ev) (st : Store)
  | rz (i : Nat) (fs : List D) (ρ : Ev) (st : Store) | stuck
abbrev SS := Ev → Store → RS
/-- what is wanted behind a statement -/
def RPost (F : Fm) (gs : Gh) (D : Ends) : RS → Prop
  | .nx ρ st => ∀ g H σ, Le gs g → SRel F g H σ ρ st → D.nx σ H
  | .ret r st => ∀ g H v, Grow F.g0 F.H0 g H → Sub g H → StoR F.K F.pa g H st → RVR F.K F.pa F.H0 g H v r → D.rt v H
  | .brk ρ st => ∀ g H σ, Le gs g → SRel F g H σ ρ st → D.bk σ H
  | .ct ρ st => ∀ g H σ, Le gs g → SRel F g H σ ρ st → D.ct σ H
  | .rz i fs ρ st => ∀ g H σ cls dx, Le gs g → SRel F g H σ ρ st → ExcR F g cls dx i fs → F.W cls dx σ H
  | .stuck => False
theorem RPost.le {F : Fm} {g g' : Gh} {D : Ends} {r : RS} (l : Le g g') (h : RPost F g D r) : RPost F g' D r := by
  cases r with
  | nx ρ st => exact fun g1 H σ l1 => h g1 H σ (l.trans l1)
  | ret r st => exact h
  | brk ρ st => exact fun g1 H σ l1 => h g1 H σ (l.trans l1)
  | ct ρ st => exact fun g1 H σ l1 => h g1 H σ (l.trans l1)
  | rz i fs ρ st => exact fun g1 H σ cls dx l1 => h g1 H σ cls dx (l.trans l1)
  | stuck => exact h
def tS (F : Fm) (f : SS) : TS := fun D σ H => ∃ g ρ st, SRel F g H σ ρ st ∧ RPost F g D (f ρ st)
theorem PS.mono {X : Cx} {s : Stmt} {t t' : TS} (h : ∀ D σ H, t' D σ H → t D σ H) (p : PS X s t) : PS X s t' := ⟨fun pins s σ H D I q => p.run pins s σ H D I (h D σ H q)⟩
theorem PSs.mono {X : Cx} {s : List Stmt} {t t' : TS} (h : ∀ D σ H, t' D σ H → t D σ H) (p : PSs X s t) : PSs X s t' := ⟨fun pins s σ H D I q => p.run pins s σ H D I (h D σ H q)⟩
/-- an expression's result, and on -/
def onR {α : Type} (r : Res α) (ρ : Ev) (k : α → Store → RS) : RS := match r with
  | .ok a st => k a st
  | .rz i fs st => .rz i fs ρ st
  | .stuck => .stuck
section
variable {F : Fm} {X : Cx} {D : Ends} {g g' : Gh} {H H' : Hp} {σ : L2.St} {ρ : Ev} {st : Store}
theorem post_of {α : Type} {r : Res α} {k : α → Store → RS} (R : SRel F g H σ ρ st) (p : RPost F g D (onR r ρ k)) : Post F g H σ r (fun a g' H' st' => Grow g H g' H' ∧ SRel F g' H' σ ρ st' ∧ RPost F g' D (k a st')) := by
  cases r with
  | ok a st' => exact fun g' H' gr sb so => ⟨gr, R.grow gr sb so, RPost.le gr.le p⟩
  | rz i fs st' => exact fun g' H' cls dx gr sb so ex => p g' H' σ cls dx gr.le (R.grow gr sb so) ex
  | stuck => exact p
/-! ### slots that hold a list are frozen -/
def frz1 (i : Nat) (ρ : Ev) : Ev := match ρ[i]? with
  | some (.own ds) => ρ.set i (.val (.lst ds))
  | _ => ρ
def frzL : List Nat → Ev → Ev
  | [], ρ => ρ
  | i :: is, ρ => frzL is (frz1 i ρ)
theorem SRel.frz1 (R : SRel F g H σ ρ st) (i : Nat) : ∃ g', Le g g' ∧ SRel F g' H σ (frz1 i ρ) st := by
  unfold Dn.frz1
  cases e : ρ[i]? with
  | none => exact ⟨g, Le.refl _, R⟩
  | some s =>
    cases s with
    | own ds =>
      obtain ⟨a, xs, e1, h1, r1, h2, h3, h4⟩ := R.sl i _ e
      have le := le_put (o := .lst xs) h2
      refine ⟨g.put a (.lst xs), le, grow_frz h2 F.H0 h4 R.gr, sub_frz R.sub h1, sto_frz R.sto h2 h3 h1, by simpa using R.len, fun j s h => ?_, fun j k b ds' es hjk q1 q2 q3 q4 => ?_⟩
      · by_cases hj : i = j
        · subst hj
          rw [List.getElem?_set_self (List.getElem?_eq_some_iff.mp e).1] at h
          cases h
          exact ⟨.ref a, e1, .lst' sqL_put (r1.le le)⟩
        · rw [List.getElem?_set_ne hj] at h
          have hs := R.sl j s h
          cases s with
          | un => trivial
          | val d => obtain ⟨v, e2, r⟩ := hs; exact ⟨v, e2, r.le le⟩
          | exc n fs => obtain ⟨b, cls, dx, z1, z2, z3⟩ := hs; exact ⟨b, cls, dx, z1, z2, z3.le le⟩
          | own ds' =>
            obtain ⟨b, ys, e2, z1, r2, z2, z3, z4⟩ := hs
            have nb : b ≠ a := fun eb => R.sep i j a ds ds' hj e h e1 (by rw [e2, eb])
            refine ⟨b, ys, e2, z1, r2.le le, ?_, z3, z4⟩
            show upd g.Fz a _ b = none
            rw [upd_ne nb]; exact z2
      · have ne : ∀ {m : Nat} {l}, (ρ.set i (.val (.lst ds)))[m]? = some (.own l) → i ≠ m := fun {m l} h ei => by
          subst ei
          rw [List.getElem?_set_self (List.getElem?_eq_some_iff.mp e).1] at h
          cases h
        rw [List.getElem?_set_ne (ne q1)] at q1
        rw [List.getElem?_set_ne (ne q2)] at q2
        exact R.sep j k b ds' es hjk q1 q2 q3 q4
    | un => exact ⟨g, Le.refl _, R⟩
    | val d => exact ⟨g, Le.refl _, R⟩
    | exc n fs => exact ⟨g, Le.refl _, R⟩
theorem SRel.frzL : ∀ (is : List Nat) {g : Gh} {ρ : Ev}, SRel F g H σ ρ st → ∃ g', Le g g' ∧ SRel F g' H σ (frzL is ρ) st
  | [], g, ρ, R => ⟨g, Le.refl _, R⟩
  | i :: is, g, ρ, R => by
    obtain ⟨g1, l1, R1⟩ := R.frz1 i
    obtain ⟨g2, l2, R2⟩ := SRel.frzL is R1
    exact ⟨g2, l1.trans l2, R2⟩
def sFrz (is : List Nat) (f : SS) : SS := fun ρ st => f (frzL is ρ) st
theorem ps_frz {s : Stmt} {is : List Nat} {f : SS} (p : PS X s (tS F f)) : PS X s (tS F (sFrz is f)) := by
  refine PS.mono (fun D σ H ⟨g, ρ, st, R, q⟩ => ?_) p
  obtain ⟨g', l, R'⟩ := R.frzL is
  exact ⟨g', _, st, R', RPost.le l q⟩
/-! ### name = value -/
def RV.slot : RV → Slot
  | .val d => .val d
  | .own ds => .own ds
theorem SRel.setR (R : SRel F g H σ ρ st) {st' : Store} (gr : Grow g H g' H') (R' : SRel F g' H' σ ρ st') {i : Nat} {v : V} {r : RV} (hi : i < ρ.length) (rv : RVR F.K F.pa H g' H' v r) : SRel F g' H' (σ.set i (some v)) (ρ.set i r.slot) st' := by
  cases r with
  | val d => exact R'.setV hi rv
  | own ds =>
    obtain ⟨a, xs, rfl, h1, r1, h2, h3, h4⟩ := rv
    have hi' : i < σ.length := by rw [R.len]; exact hi
    have h0 : F.H0 a = none := by
      cases q : F.H0 a with
      | none => rfl
      | some u => obtain ⟨o', z⟩ := R.gr.there a u q; rw [h4] at z; cases z
    have na : ∀ (j : Nat) l, ρ[j]? = some (.own l) → σ[j]?.join ≠ some (.ref a) := fun j l e z => by
      obtain ⟨b, ys, e2, z1, _⟩ := R.sl j _ e
      rw [e2] at z
      cases z
      rw [h4] at z1; cases z1
    refine ⟨R'.gr, R'.sub, R'.sto, by simpa using R'.len, fun j s h => ?_, fun j k b l l' hjk q1 q2 q3 q4 => ?_⟩
    · by_cases hj : i = j
      · subst hj
        rw [List.getElem?_set_self hi] at h
        cases h
        rw [join_set_self hi']
        exact ⟨a, xs, rfl, h1, r1, h2, h3, h0⟩
      · rw [List.getElem?_set_ne hj] at h
        rw [join_set_ne hj]
        exact R'.sl j s h
    · by_cases hj : i = j
      · subst hj
        rw [List.getElem?_set_ne hjk] at q2
        rw [join_set_self hi'] at q3
        rw [join_set_ne hjk] at q4
        cases q3
        exact na k l' q2 q4
      · rw [List.getElem?_set_ne hj] at q1
        rw [join_set_ne hj] at q3
        by_cases hk : i = k
        · subst hk
          rw [join_set_self hi'] at q4
          cases q4
          exact na j l q1 q3
        · rw [List.getElem?_set_ne hk] at q2
          rw [join_set_ne hk] at q4
          exact R'.sep j k b l l' hjk q1 q2 q3 q4
def sSet (i : Nat) (f : Ev → M RV) : SS := fun ρ st => onR (f ρ st) ρ fun r st' => if i < ρ.length then .nx (ρ.set i r.slot) st' else .stuck
theorem sSet_mono {i : Nat} {f : Ev → M RV} {te : TE} (h : ∀ σ H Q, tR F f σ H Q → te σ H Q) (q : tS F (sSet i f) D σ H) : tAsg te (gName i) D σ H := by
  obtain ⟨g, ρ, st, R, q⟩ := q
  refine h _ _ _ ⟨g, ρ, st, R, (post_of R q).imp fun r g' H' st' _ _ _ ⟨gr, R', q'⟩ v rv => ?_⟩
  split at q'
  · rename_i hi
    exact q' g' H' _ (Le.refl _) (R.setR gr R' hi rv)
  · exact q'.elim
/-! ### targets of names in a tuple -/
def sTg (T : Tg) (f : Ev → M Dn.D) : SS := fun ρ st => onR (f ρ st) ρ fun d st' => match T.put d ρ with | some ρ' => .nx ρ' st' | none => .stuck
theorem sTg_mono {T : Tg} {f : Ev → M Dn.D} {te : TE} (h : ∀ σ H Q, tE F f σ H Q → te σ H Q) (q : tS F (sTg T f) D σ H) : tAsg te (T.g F.K) D σ H := by
  obtain ⟨g, ρ, st, R, q⟩ := q
  refine h _ _ _ ⟨g, ρ, st, R, (post_of R q).imp fun d g' H' st' _ _ _ ⟨gr, R', q'⟩ v rv => ?_⟩
  cases e : T.put d ρ with
  | none => simp only [e] at q'; exact q'.elim
  | some ρ' =>
    simp only [e] at q'
    exact Tg.ok R' rv e fun σ' _ R2 => q' g' H' σ' (Le.refl _) R2
/-- a, b = x, y: two locals -/
def sPar (i j : Nat) (f h : Ev → M Dn.D) : SS := fun ρ st => onR ((do let x ← f ρ; let y ← h ρ; pure (x, y)) st) ρ fun p st' => if i < ρ.length ∧ j < ρ.length then .nx ((ρ.set i (.val p.1)).set j (.val p.2)) st' else .stuck
theorem sPar_mono {i j : Nat} {f h : Ev → M Dn.D} (q : tS F (sPar i j f h) D σ H) : tPar i j (tCons (tE F f) (tCons (tE F h) tNil)) D σ H := by
  obtain ⟨g, ρ, st, R, q⟩ := q
  refine tE.use R (post_of R q) fun x g1 H1 st1 v gr1 R1 rv q1 => ?_
  refine tE.use R1 q1 fun y g2 H2 st2 w gr2 R2 rw' q2 => ?_
  obtain ⟨gr, R3, q3⟩ := (q2 : Post F g2 H2 σ ((pure (x, y) : M (Dn.D × Dn.D)) st2) _).pure R2.sub R2.sto
  refine ⟨v, w, rfl, ?_⟩
  split at q3
  · rename_i hij
    exact q3 g2 H2 _ (Le.refl _) ((R2.setV hij.1 (rv.le gr2.le)).setV (by simpa using hij.2) rw')
  · exact q3.elim
/-! ### pen["k"] = value -/
def setC (k : Str) (d : Dn.D) : Cel → Cel
  | [] => []
  | p :: r => if p.1 = k then (p.1, d) :: r else p :: setC k d r
theorem setC_keys (k : Str) (d : Dn.D) : ∀ c : Cel, (setC k d c).map (·.1) = c.map (·.1)
  | [] => rfl
  | p :: r => by unfold setC; split <;> simp [setC_keys k d r]
def sPut (k : Str) (fd : Ev → M Dn.D) (fv : Ev → M Dn.D) : SS := fun ρ st => onR ((do let v ← fv ρ; let d ← fd ρ; pure (v, d)) st) ρ fun p st' => match p.2 with
  | .cel i => match st'[i]? with
    | some c => if decide (k ∈ c.map (·.1)) && decide ((c.map (·.1)).Nodup) && decide (c.length < 1000) then .nx ρ (st'.set i (setC k p.1 c)) else .stuck
    | none => .stuck
  | _ => .stuck
theorem putK_celr {K : PySem.W.Frag} {pa : PAd} {g : Gh} {k : Str} {v : V} {d : Dn.D} (rv : RepV K pa g v d) : ∀ {ps : List (Key × V)} {c : Cel}, CelR K pa g ps c → (c.map (·.1)).Nodup → k ∈ c.map (·.1) →
    CelR K pa g (ps.map (fun kv => if kv.1 = (Sum.inr k : Key) then (kv.1, v) else kv)) (setC k d c) ∧ (ps.any fun kv => decide (kv.1 = (Sum.inr k : Key))) = true
  | [], c, h, _, hk => by
    have := h.1
    cases c with
    | nil => simp at hk
    | cons p r => simp at this
  | p :: ps, [], h, _, hk => by simp at hk
  | (kp, w) :: ps, (kq, d') :: c, h, nd, hk => by
    obtain ⟨h1, h2⟩ := h
    simp only [List.map_cons, List.cons.injEq] at h1
    obtain ⟨e1, e2⟩ := h1
    subst e1
    have h3 := h2.cons_inv
    simp only [List.map_cons, List.nodup_cons] at nd
    by_cases e : kq = k
    · subst e
      have nk : ∀ q ∈ ps, q.1 ≠ (Sum.inr kq : Key) := fun q hq z => by
        have : q.1 ∈ ps.map (·.1) := List.mem_map_of_mem hq
        rw [e2, z] at this
        obtain ⟨y, hy, ey⟩ := List.mem_map.mp this
        cases ey
        exact nd.1 (List.mem_map_of_mem hy)
      have em : ps.map (fun kv => if kv.1 = (Sum.inr kq : Key) then (kv.1, v) else kv) = ps := by
        rw [List.map_congr_left (g := _root_.id) fun q hq => by simp [nk q hq]]
        simp
      refine ⟨?_, by simp⟩
      rw [List.map_cons, em]
      have es : setC kq d ((kq, d') :: c) = (kq, d) :: c := by simp [setC]
      rw [es, if_pos rfl]
      exact ⟨by simp [e2], .cons rv h3.2⟩
    · have hk' : k ∈ c.map (·.1) := by
        simp only [List.map_cons, List.mem_cons] at hk
        rcases hk with z | z
        · exact absurd z.symm e
        · exact z
      obtain ⟨c1, c2⟩ := putK_celr rv ⟨e2, h3.2⟩ nd.2 hk'
      have es : setC k d ((kq, d') :: c) = (kq, d') :: setC k d c := by simp [setC, e]
      rw [es, List.map_cons, if_neg (fun z => e (by cases z; rfl))]
      refine ⟨⟨by simp [c1.1], ?_⟩, by simp only [List.any_cons, c2, Bool.or_true]⟩
      exact .cons h3.1 c1.2
theorem SRel.put (R : SRel F g H σ ρ st) {i : Nat} {a : Addr} {c c' : Cel} {ps ps' : List (Key × V)} (h1 : g.as[i]? = some a) (h2 : st[i]? = some c) (h3 : H a = some (.dK ps)) (h4 : CelR F.K F.pa g ps' c') :
    SRel F g (upd H a (.dK ps')) σ ρ (st.set i c') := by
  have ma : a ∈ g.as := List.mem_of_getElem? h1
  have hi : i < st.length := (List.getElem?_eq_some_iff.mp h2).1
  refine ⟨⟨R.gr.le, R.gr.new, R.gr.newA, fun b u hb nb t => ?_, fun b u hb => ?_⟩, fun b u hb => ?_, ⟨by simpa using R.sto.len, R.sto.nd, R.sto.nz, fun j b kvs q1 q2 => ?_, R.sto.amb, fun p hp => calm_tabs (R.sto.tabs p hp) (calm_dk h3), R.sto.cci⟩, R.len, fun j s hs => ?_, R.sep⟩
  · rw [upd_ne fun e => ?_]
    · exact R.gr.keep b u hb nb t
    · rw [e] at hb nb
      rcases R.gr.newA a ma with z | z
      · exact nb z
      · rw [hb] at z; cases z
  · by_cases e : b = a
    · rw [e, upd_same]; exact ⟨_, rfl⟩
    · rw [upd_ne e]; exact R.gr.there b u hb
  · rw [upd_ne fun e => by rw [e, R.sto.nz a ma] at hb; cases hb]
    exact R.sub b u hb
  · by_cases e : i = j
    · subst e
      rw [h1] at q1; cases q1
      rw [List.getElem?_set_self hi] at q2; cases q2
      exact ⟨ps', upd_same, h4⟩
    · rw [List.getElem?_set_ne e] at q2
      have nb : b ≠ a := fun eb => by
        obtain ⟨l1, z1⟩ := List.getElem?_eq_some_iff.mp h1
        obtain ⟨l2, z2⟩ := List.getElem?_eq_some_iff.mp q1
        exact e ((List.getElem_inj R.sto.nd).mp (z1.trans (eb.symm.trans z2.symm)))
      obtain ⟨p, w1, w2⟩ := R.sto.at_ j b kvs q1 q2
      exact ⟨p, by rw [upd_ne nb]; exact w1, w2⟩
  · have hs := R.sl j s hs
    cases s with
    | own ds =>
      obtain ⟨b, xs, e1, z1, z⟩ := hs
      exact ⟨b, xs, e1, by rw [upd_ne fun eb => by rw [eb, h3] at z1; cases z1]; exact z1, z⟩
    | _ => exact hs
theorem sPut_mono {k : Str} {fd fv : Ev → M Dn.D} (q : tS F (sPut k fd fv) D σ H) : sDPut (tE F fd) (tC (.str k)) (tE F fv) D σ H := by
  obtain ⟨g, ρ, st, R, q⟩ := q
  refine tE.use R (post_of R q) fun v g1 H1 st1 x gr1 R1 rx q1 => ?_
  refine tE.use R1 q1 fun d g2 H2 st2 y gr2 R2 ry q2 => ?_
  obtain ⟨gr, R3, q3⟩ := (q2 : Post F g2 H2 σ ((pure (v, d) : M (Dn.D × Dn.D)) st2) _).pure R2.sub R2.sto
  cases d with
  | cel i =>
    obtain ⟨a, rfl, h1⟩ := ry.cel_inv
    cases h2 : st2[i]? with
    | none => simp only [h2] at q3; exact q3.elim
    | some c =>
      simp only [h2] at q3
      split at q3
      · rename_i hk
        simp only [Bool.and_eq_true, decide_eq_true_eq] at hk
        obtain ⟨ps, hp, cr⟩ := R2.sto.at_ i a c h1 h2
        obtain ⟨c1, c2⟩ := putK_celr (rx.le gr2.le) cr hk.1.2 hk.1.1
        have hl : ps.length = c.length := by
          have := congrArg List.length cr.1
          simpa using this
        refine ⟨a, _, rfl, DPut.k (k := Sum.inr k) hp (by rw [sizeLine_eq]; omega), ?_⟩
        unfold putK
        rw [if_pos c2]
        exact q3 g2 _ σ (Le.refl _) (R2.put h1 h2 hp c1)
      · exact q3.elim
  | _ => exact (q3 : False).elim
/-! ### x[i] = value, x.append(value): a list that the frame holds -/
theorem SRel.mut (R : SRel F g H σ ρ st) {i : Nat} {ds ds' : List Dn.D} {a : Addr} {xs xs' : List V} (h : ρ[i]? = some (.own ds)) (e : σ[i]?.join = some (.ref a)) (hH : H a = some (.lst xs)) (r : RepVs F.K F.pa g xs' ds') :
    SRel F g (upd H a (.lst xs')) σ (ρ.set i (.own ds')) st := by
  have hi : i < ρ.length := (List.getElem?_eq_some_iff.mp h).1
  obtain ⟨b, ys, e1, z1, z2, z3, z4, z5⟩ := R.sl i _ h
  rw [e] at e1; cases e1
  refine ⟨⟨R.gr.le, R.gr.new, R.gr.newA, fun b u hb nb t => ?_, fun b u hb => ?_⟩, fun b u hb => ?_, R.sto.keepAll (calm_lst hH) fun b hb => ?_, by simpa using R.len, fun j s hs => ?_, fun j k b l l' hjk q1 q2 q3 q4 => ?_⟩
  · rw [upd_ne fun eb => by rw [eb, z5] at hb; cases hb]; exact R.gr.keep b u hb nb t
  · rw [upd_ne fun eb => by rw [eb, z5] at hb; cases hb]; exact R.gr.there b u hb
  · rw [upd_ne fun eb => by rw [eb, z3] at hb; cases hb]; exact R.sub b u hb
  · rw [upd_ne fun eb => z4 (by rw [← eb]; exact hb)]
  · by_cases hj : i = j
    · subst hj
      rw [List.getElem?_set_self hi] at hs
      cases hs
      exact ⟨a, xs', e, upd_same, r, z3, z4, z5⟩
    · rw [List.getElem?_set_ne hj] at hs
      have hs' := R.sl j s hs
      cases s with
      | own l =>
        obtain ⟨c, zs, e2, w1, w⟩ := hs'
        refine ⟨c, zs, e2, ?_, w⟩
        rw [upd_ne fun ec => R.sep i j a ds l hj h hs e (by rw [e2, ec])]
        exact w1
      | _ => exact hs'
  · have back : ∀ {m : Nat} {l}, (ρ.set i (.own ds'))[m]? = some (.own l) → ∃ l', ρ[m]? = some (.own l') := fun {m l} hm => by
      by_cases hj : i = m
      · subst hj; exact ⟨ds, h⟩
      · rw [List.getElem?_set_ne hj] at hm; exact ⟨l, hm⟩
    obtain ⟨m1, w1⟩ := back q1
    obtain ⟨m2, w2⟩ := back q2
    exact R.sep j k b m1 m2 hjk w1 w2 q3 q4
def ownAt (ρ : Ev) (i : Nat) : Option (List Dn.D) := match ρ[i]? with
  | some (.own ds) => some ds
  | _ => none
theorem ownAt_some {i : Nat} {ds : List Dn.D} (h : ownAt ρ i = some ds) : ρ[i]? = some (.own ds) := by
  unfold ownAt at h
  split at h
  · rename_i e; cases h; exact e
  · cases h
def sIx (i : Nat) (fi fv : Ev → M Dn.D) : SS := fun ρ st => match ownAt ρ i with
  | some ds => onR ((do let v ← fv ρ; let j ← fi ρ; pure (v, j)) st) ρ fun p st' => match p.2 with
    | .int j => match ixN ds.length j with
      | some n => .nx (ρ.set i (.own (ds.set n p.1))) st'
      | none => .stuck
    | _ => .stuck
  | none => .stuck
theorem RepVs.set {K : PySem.W.Frag} {pa : PAd} {g : Gh} {xs : List V} {ds : List Dn.D} {n : Nat} {v : V} {d : Dn.D} (r : RepVs K pa g xs ds) (rv : RepV K pa g v d) : RepVs K pa g (xs.set n v) (ds.set n d) := by
  refine ⟨by simpa using r.1, fun i x e h1 h2 => ?_⟩
  by_cases hi : n = i
  · subst hi
    by_cases hl : n < xs.length
    · rw [List.getElem?_set_self hl] at h1
      rw [List.getElem?_set_self (by rw [← r.1]; exact hl)] at h2
      cases h1; cases h2
      exact rv
    · rw [List.getElem?_eq_none (by simpa using hl)] at h1; cases h1
  · rw [List.getElem?_set_ne hi] at h1 h2
    exact r.2 i x e h1 h2
theorem join_some {i : Nat} {v : V} (e1 : σ[i]?.join = some v) : σ[i]? = some (some v) := by
  cases z : σ[i]? with
  | none => rw [z] at e1; cases e1
  | some w => rw [z] at e1; have : w = some v := e1; rw [this]
theorem sIx_mono {i : Nat} {fi fv : Ev → M Dn.D} (q : tS F (sIx i fi fv) D σ H) : tAsg (tE F fv) (gSub (tVar i) (tE F fi) rSetL) D σ H := by
  obtain ⟨g, ρ, st, R, q⟩ := q
  unfold sIx at q
  cases ho : ownAt ρ i with
  | none => simp only [ho] at q; exact q.elim
  | some ds =>
    simp only [ho] at q
    refine tE.use R (post_of R q) fun v g1 H1 st1 x gr1 R1 rx q1 => ?_
    have ho' := ownAt_some ho
    obtain ⟨a, xs, e1, z1, r1, z⟩ := R1.sl i _ ho'
    refine ⟨.ref a, join_some e1, ?_⟩
    refine tE.use R1 q1 fun j g2 H2 st2 y gr2 R2 ry q2 => ?_
    obtain ⟨gr, R3, q3⟩ := (q2 : Post F g2 H2 σ ((pure (v, j) : M (Dn.D × Dn.D)) st2) _).pure R2.sub R2.sto
    cases j with
    | int j =>
      cases hn : ixN ds.length j with
      | none => simp only [hn] at q3; exact q3.elim
      | some n =>
        simp only [hn] at q3
        obtain ⟨a2, xs2, e2, w1, r2, w⟩ := R2.sl i _ ho'
        rw [e1] at e2; cases e2
        exact ⟨a, xs2, j, n, rfl, ry.int_inv, w1, by rw [r2.1]; exact hn, q3 g2 _ σ (Le.refl _) (R2.mut ho' e1 w1 (r2.set (rx.le gr2.le)))⟩
    | _ => exact (q3 : False).elim
def sApp (i : Nat) (fv : Ev → M Dn.D) : SS := fun ρ st => match ownAt ρ i with
  | some ds => onR (fv ρ st) ρ fun v st' => if decide (ds.length < 16777216) then .nx (ρ.set i (.own (ds ++ [v]))) st' else .stuck
  | none => .stuck
theorem sApp_mono {i : Nat} {fv : Ev → M Dn.D} (hK : X.K = F.K) (q : tS F (sApp i fv) D σ H) : tDrop (tBM X.K "list" rAppend (tVar i) (tCons (tE F fv) tNil)) D σ H := by
  obtain ⟨g, ρ, st, R, q⟩ := q
  unfold sApp at q
  cases ho : ownAt ρ i with
  | none => simp only [ho] at q; exact q.elim
  | some ds =>
    simp only [ho] at q
    have ho' := ownAt_some ho
    obtain ⟨a, xs, e1, z1, r1, z⟩ := R.sl i _ ho'
    refine ⟨.ref a, join_some e1, .inl ⟨rfl, xs, SqL.of z1⟩, ?_⟩
    refine ⟨g, ρ, st, R, (post_of R q).imp fun v g' H' st' _ _ _ ⟨gr, R', q'⟩ w rw' => ?_⟩
    obtain ⟨a2, xs2, e2, w1, r2, _⟩ := R'.sl i _ ho'
    rw [e1] at e2; cases e2
    split at q'
    · rename_i hz
      have hz := of_decide_eq_true hz
      refine ⟨a, xs2, w, rfl, rfl, w1, by rw [r2.1, sizeLine_eq]; exact hz, ?_⟩
      exact q' g' _ σ (Le.refl _) (R'.mut ho' e1 w1 (r2.append (.cons rw' .nil)))
    · exact q'.elim
/-! ### an expression alone, return, if, blocks -/
def sExp (f : Ev → M RV) : SS := fun ρ st => onR (f ρ st) ρ fun _ st' => .nx ρ st'
theorem sExp_mono {f : Ev → M RV} {te : TE} (h : ∀ σ H Q, tR F f σ H Q → te σ H Q) (q : tS F (sExp f) D σ H) : tDrop te D σ H := by
  obtain ⟨g, ρ, st, R, q⟩ := q
  exact h _ _ _ ⟨g, ρ, st, R, (post_of R q).imp fun r g' H' st' _ _ _ ⟨gr, R', q'⟩ v rv => q' g' H' σ (Le.refl _) R'⟩
def sRet (f : Ev → M RV) : SS := fun ρ st => onR (f ρ st) ρ fun r st' => .ret r st'
theorem sRet_mono {f : Ev → M RV} {te : TE} (h : ∀ σ H Q, tR F f σ H Q → te σ H Q) (q : tS F (sRet f) D σ H) : tRet te D σ H := by
  obtain ⟨g, ρ, st, R, q⟩ := q
  exact h _ _ _ ⟨g, ρ, st, R, (post_of R q).imp fun r g' H' st' _ _ _ ⟨gr, R', q'⟩ v rv => q' g' H' v R'.gr R'.sub R'.sto (rv.base R.gr)⟩
/-- return of a list that the frame holds -/
def sRetO (i : Nat) : SS := fun ρ st => match ρ[i]? with
  | some (.val d) => .ret (.val d) st
  | some (.own ds) => .ret (.own ds) st
  | _ => .stuck
theorem sRetO_mono {i : Nat} (q : tS F (sRetO i) D σ H) : tRet (tVar i) D σ H := by
  obtain ⟨g, ρ, st, R, q⟩ := q
  unfold sRetO at q
  cases e : ρ[i]? with
  | none => simp only [e] at q; exact q.elim
  | some s =>
    simp only [e] at q
    cases s with
    | val d =>
      obtain ⟨v, e1, r⟩ := R.sl i _ e
      exact ⟨v, join_some e1, q g H v R.gr R.sub R.sto r⟩
    | own ds =>
      obtain ⟨a, xs, e1, z1, r, z2, z3, z4⟩ := R.sl i _ e
      exact ⟨.ref a, join_some e1, q g H _ R.gr R.sub R.sto ⟨a, xs, rfl, z1, r, z2, z3, z4⟩⟩
    | un => exact (q : False).elim
    | exc n fs => exact (q : False).elim
def sNil : SS := fun ρ st => .nx ρ st
theorem sNil_mono (q : tS F sNil D σ H) : tNext D σ H := by
  obtain ⟨g, ρ, st, R, q⟩ := q
  exact q g H σ (Le.refl _) R
def sRetN : SS := fun _ st => .ret (.val .non) st
theorem sRetN_mono (q : tS F sRetN D σ H) : tRetN D σ H := by
  obtain ⟨g, ρ, st, R, q⟩ := q
  exact q g H .non R.gr R.sub R.sto .non
def sBrk : SS := fun ρ st => .brk ρ st
theorem sBrk_mono (q : tS F sBrk D σ H) : tBreak D σ H := by
  obtain ⟨g, ρ, st, R, q⟩ := q
  exact q g H σ (Le.refl _) R
def sCt : SS := fun ρ st => .ct ρ st
theorem sCt_mono (q : tS F sCt D σ H) : tCont D σ H := by
  obtain ⟨g, ρ, st, R, q⟩ := q
  exact q g H σ (Le.refl _) R
def sSeq (a b : SS) : SS := fun ρ st => match a ρ st with
  | .nx ρ' st' => b ρ' st'
  | r => r
theorem sSeq_mono {a b : SS} (q : tS F (sSeq a b) D σ H) : tSeq (tS F a) (tS F b) D σ H := by
  obtain ⟨g, ρ, st, R, q⟩ := q
  refine ⟨g, ρ, st, R, ?_⟩
  unfold sSeq at q
  cases e : a ρ st with
  | nx ρ' st' => simp only [e] at q; exact fun g' H' σ' l R' => ⟨g', ρ', st', R', RPost.le l q⟩
  | ret r st' => simp only [e] at q; exact q
  | brk ρ' st' => simp only [e] at q; exact q
  | ct ρ' st' => simp only [e] at q; exact q
  | rz i fs ρ' st' => simp only [e] at q; exact q
  | stuck => simp only [e] at q; exact q.elim
def sIf (t : Ev → M Bool) (a b : SS) : SS := fun ρ st => onR (t ρ st) ρ fun k st' => if k then a ρ st' else b ρ st'
theorem sIf_mono {t : Ev → M Bool} {a b : SS} (q : tS F (sIf t a b) D σ H) : tIfS (tT F t) (tS F a) (tS F b) D σ H := by
  obtain ⟨g, ρ, st, R, q⟩ := q
  refine ⟨g, ρ, st, R, (post_of R q).imp fun k g' H' st' _ _ _ ⟨gr, R', q'⟩ => ?_⟩
  cases k with
  | true => exact iteT ⟨g', ρ, st', R', q'⟩
  | false => exact iteF ⟨g', ρ, st', R', q'⟩
/-! ### for -/
def forM (T : Tg) (b : SS) : List Dn.D → SS
  | [], ρ, st => .nx ρ st
  | d :: r, ρ, st => match T.put d ρ with
    | none => .stuck
    | some ρ' => match b ρ' st with
      | .nx ρ2 st2 => forM T b r ρ2 st2
      | .ct ρ2 st2 => forM T b r ρ2 st2
      | .brk ρ2 st2 => .nx ρ2 st2
      | x => x
def sFor (q : Ev → M (List Dn.D)) (T : Tg) (b : SS) : SS := fun ρ st => onR (q ρ st) ρ fun ds st' => forM T b ds ρ st'
theorem sFor_mono {q : Ev → M (List Dn.D)} {T : Tg} {b : SS} {wi : TI}
    (hi : ∀ {α : Type} (σ : L2.St) (H : Hp) (g : Gh) (ρ : Ev) (st : Store) (R : It → Hp → Prop) (h : List Dn.D → M α) (k : α → Gh → Hp → Store → Prop), SRel F g H σ ρ st → Post F g H σ ((q ρ >>= h) st) k →
      (∀ ds g1 H1 st1 J, Grow g H g1 H1 → SRel F g1 H1 σ ρ st1 → ItD F (fun g H => if false = true then Grow g1 H1 g H else Le g1 g) J ds → Post F g1 H1 σ (h ds st1) k → R J H1) → wi σ H R)
    (hq : tS F (sFor q T b) D σ H) : tFor wi (T.g F.K) (tS F b) D σ H := by
  obtain ⟨g, ρ, st, R, p⟩ := hq
  have p2 : Post F g H σ ((q ρ >>= fun ds => (pure ds : M (List Dn.D))) st) (fun ds g' H' st' => Grow g H g' H' ∧ SRel F g' H' σ ρ st' ∧ RPost F g' D (forM T b ds ρ st')) := by
    rw [show (q ρ >>= fun ds => (pure ds : M (List Dn.D))) st = q ρ st by rw [run_bind]; cases q ρ st <;> rfl]
    exact post_of R p
  refine hi σ H g ρ st _ _ _ R p2 fun ds g1 H1 st1 J gr1 R1 itd p3 => ?_
  obtain ⟨_, _, p3⟩ := (p3 : Post F g1 H1 σ ((pure ds : M (List Dn.D)) st1) _).pure R1.sub R1.sto
  have itd := itd.imp (C' := fun g _ => Le g1 g) fun g H z => by simpa using z
  refine ⟨fun i m σ' H' => ∃ g' ρ' st', m = ds.length - i ∧ i ≤ ds.length ∧ Le g1 g' ∧ SRel F g' H' σ' ρ' st' ∧ RPost F g' D (forM T b (ds.drop i) ρ' st'), ⟨ds.length, g1, ρ, st1, by simp, by simp, Le.refl _, R1, p3⟩, ?_⟩
  rintro i m σ' H' ⟨g', ρ', st', rfl, hi', le, R', p'⟩
  by_cases hlt : i < ds.length
  · refine .inr ⟨itd.go g' H' i le R'.sub hlt, fun σ2 H2 => ∃ g2 ρ2 st2, Le g1 g2 ∧ SRel F g2 H2 σ2 ρ2 st2 ∧ RPost F g2 D (forM T b (ds.drop (i + 1)) ρ2 st2), fun σ2 H2 ⟨g2, ρ2, st2, a1, a2, a3⟩ => ⟨ds.length - (i + 1), by omega, g2, ρ2, st2, rfl, hlt, a1, a2, a3⟩, fun x H2 y => ?_⟩
    have hd : ds[i]? = some ds[i] := by simp [hlt]
    obtain ⟨g2, gr2, sb2, so2, rx⟩ := itd.yld g' H' st' i x H2 _ le R'.sub R'.sto hd y
    rw [List.drop_eq_getElem_cons hlt] at p'
    simp only [forM] at p'
    cases hput : T.put ds[i] ρ' with
    | none => simp only [hput] at p'; exact p'.elim
    | some ρ2 =>
      simp only [hput] at p'
      refine Tg.ok (R'.grow gr2 sb2 so2) rx hput fun σ2 _ R2 => ?_
      refine ⟨g2, ρ2, st', R2, ?_⟩
      have le2 := le.trans gr2.le
      have p' := RPost.le gr2.le p'
      -- what the body leaves: the loop's list stands in what is frozen
      cases e : b ρ2 st' with
      | nx ρ3 st3 => simp only [e] at p'; exact fun g3 H3 σ3 l3 R3 => ⟨g3, ρ3, st3, le2.trans l3, R3, RPost.le l3 p'⟩
      | ct ρ3 st3 => simp only [e] at p'; exact fun g3 H3 σ3 l3 R3 => ⟨g3, ρ3, st3, le2.trans l3, R3, RPost.le l3 p'⟩
      | brk ρ3 st3 => simp only [e] at p'; exact p'
      | ret r st3 => simp only [e] at p'; exact p'
      | rz n fs ρ3 st3 => simp only [e] at p'; exact p'
      | stuck => simp only [e] at p'; exact p'.elim
  · have e : i = ds.length := by omega
    subst e
    refine .inl ⟨itd.stop g' H' _ le R'.sub (Nat.le_refl _), ?_⟩
    rw [List.drop_length] at p'
    exact p' g' H' σ' (Le.refl _) R'
end
end Dn

set_option Elab.async false
set_option linter.all false
set_option maxRecDepth 100000
set_option maxHeartbeats 4000000
/-! Den, part I: while, zip, the store's making, calls of the program's defs. -/
namespace Dn
open PySem PySem.Spec L2

section
variable {F : Fm} {X : Cx} {Z : Ends} {g g' : Gh} {H H' : Hp} {σ : L2.St} {ρ : Ev} {st : Store} {tg e a b : Expr} {es : List Expr} {p pos tpos : Pos}
/-! ### while: at most n turns -/
def whM (t : Ev → M Bool) (b : SS) : Nat → SS
  | 0, _, _ => .stuck
  | n + 1, ρ, st => onR (t ρ st) ρ fun k st' => if k then (match b ρ st' with
      | .nx ρ2 st2 => whM t b n ρ2 st2
      | .ct ρ2 st2 => whM t b n ρ2 st2
      | .brk ρ2 st2 => .nx ρ2 st2
      | x => x) else .nx ρ st'
theorem whM_mono {t : Ev → M Bool} {b : SS} {n : Nat} (q : tS F (whM t b n) Z σ H) : tWhile (tT F t) (tS F b) Z σ H := by
  obtain ⟨g, ρ, st, R, q⟩ := q
  refine ⟨fun m σ' H' => ∃ g' ρ' st', SRel F g' H' σ' ρ' st' ∧ RPost F g' Z (whM t b m ρ' st'), ⟨n, g, ρ, st, R, q⟩, ?_⟩
  rintro m σ' H' ⟨g', ρ', st', R', q'⟩
  cases m with
  | zero => exact (q' : False).elim
  | succ m =>
    refine ⟨g', ρ', st', R', (post_of R' q').imp fun k g2 H2 st2 _ _ _ ⟨gr, R2, q2⟩ => ?_⟩
    cases k with
    | false => exact iteF (q2 g2 H2 σ' (Le.refl _) R2)
    | true =>
      refine iteT ⟨fun σ3 H3 => ∃ g3 ρ3 st3, SRel F g3 H3 σ3 ρ3 st3 ∧ RPost F g3 Z (whM t b m ρ3 st3), fun σ3 H3 h => ⟨m, Nat.lt_succ_self m, h⟩, g2, ρ', st2, R2, ?_⟩
      have q2 : RPost F g2 Z (match b ρ' st2 with
        | .nx ρ2 st2 => whM t b m ρ2 st2
        | .ct ρ2 st2 => whM t b m ρ2 st2
        | .brk ρ2 st2 => .nx ρ2 st2
        | x => x) := q2
      cases e : b ρ' st2 with
      | nx ρ3 st3 => simp only [e] at q2; exact fun g3 H3 σ3 l3 R3 => ⟨g3, ρ3, st3, R3, RPost.le l3 q2⟩
      | ct ρ3 st3 => simp only [e] at q2; exact fun g3 H3 σ3 l3 R3 => ⟨g3, ρ3, st3, R3, RPost.le l3 q2⟩
      | brk ρ3 st3 => simp only [e] at q2; exact q2
      | ret r st3 => simp only [e] at q2; exact q2
      | rz n fs ρ3 st3 => simp only [e] at q2; exact q2
      | stuck => simp only [e] at q2; exact q2.elim
/-! ### zip -/
def zipM : D → D → M (List Dn.D)
  | .lst a, .lst b => pure (List.zipWith (fun x y => .tup [x, y]) a b)
  | .tup a, .tup b => pure (List.zipWith (fun x y => .tup [x, y]) a b)
  | _, _ => stuck
theorem itd_zip {C : Gh → Hp → Prop} {go' : Nat → Hp → Prop} {a b : Addr} {xs ys : List V} {ds es : List Dn.D} {g1 : Gh} {S S' : Hp → Addr → List V → Prop} (J : It)
    (hs : ∀ i H, J.stop i H = ∃ xs ys : List V, S H a xs ∧ S' H b ys ∧ (xs.length ≤ i ∨ ys.length ≤ i)) (hg : ∀ i H, J.go i H = ∃ (xs ys : List V) (x y : V), S H a xs ∧ S' H b ys ∧ xs[i]? = some x ∧ ys[i]? = some y)
    (hy : ∀ i H v H', J.yld i H v H' = ∃ T x y, v = .ref T ∧ H T = none ∧ H' = upd H T (.tup [x, y]) ∧ (∀ xs, S H a xs → xs[i]? = some x) ∧ ∀ ys, S' H b ys → ys[i]? = some y)
    (h1 : ∀ (g : Gh) (H : Hp), C g H → Sub g H → S H a xs) (h2 : ∀ (g : Gh) (H : Hp), C g H → Sub g H → S' H b ys) (l : ∀ (g : Gh) (H : Hp), C g H → Le g1 g) (r1 : RepVs F.K F.pa g1 xs ds) (r2 : RepVs F.K F.pa g1 ys es) :
    ItD F C J (List.zipWith (fun x y => Dn.D.tup [x, y]) ds es) where
  stop := fun g H i c sb hi => by
    rw [hs]
    refine ⟨xs, ys, h1 g H c sb, h2 g H c sb, ?_⟩
    rw [List.length_zipWith] at hi
    rw [r1.1, r2.1]
    omega
  go := fun g H i c sb hi => by
    rw [hg]
    rw [List.length_zipWith] at hi
    obtain ⟨x, hx⟩ := rep_at r1 (show i < ds.length by omega)
    obtain ⟨y, hy'⟩ := rep_at r2 (show i < es.length by omega)
    exact ⟨xs, ys, x, y, h1 g H c sb, h2 g H c sb, hx, hy'⟩
  yld := fun g H st i v H' d c sb so hd y => by
    rw [hy] at y
    obtain ⟨T, x, z, rfl, hT, rfl, q1, q2⟩ := y
    have hx := q1 xs (h1 g H c sb)
    have hz := q2 ys (h2 g H c sb)
    have hi := (List.getElem?_eq_some_iff.mp hd).1
    rw [List.length_zipWith] at hi
    have e1 : ds[i]? = some ds[i] := by simp [show i < ds.length by omega]
    have e2 : es[i]? = some es[i] := by simp [show i < es.length by omega]
    have ed : d = .tup [ds[i], es[i]] := by
      rw [List.getElem?_zipWith, e1, e2] at hd
      simpa using hd.symm
    subst ed
    have rr : RepVs F.K F.pa g [x, z] [ds[i], es[i]] := .cons ((r1.le (l g H c)).2 i x _ hx e1) (.cons ((r2.le (l g H c)).2 i z _ hz e2) .nil)
    exact ⟨g.put T (.tup [x, z]), grow_put sb hT, sub_put sb, sto_put so sb hT, .tup' sqT_put (rr.le (le_put (sb.none hT)))⟩
def itZ (f f' : Ev → M D) : Ev → M (List D) := fun ρ => do let d ← f ρ; let e ← f' ρ; zipM d e
theorem it_bind2 {α : Type} {f f' : Ev → M Dn.D} {z : Dn.D → Dn.D → M (List Dn.D)} {h : List Dn.D → M α} : ((do let d ← f ρ; let e ← f' ρ; z d e : M (List Dn.D)) >>= h) st = (f ρ >>= fun d => f' ρ >>= fun e => z d e >>= h) st := by
  rw [bind_assoc', run_bind, run_bind]
  cases f ρ st with
  | ok d st' => exact bind_assoc' _ _ _ _
  | rz i fs st' => rfl
  | stuck => rfl
theorem it_zipQ (hK : X.K = F.K) {elts : List Expr} {kk : Nat} {f f' : Ev → M Dn.D} (hg : Gl X "zip") (hm : X.mg "zip" = none) (hp : plainE a = true) (hp' : plainE b = true) (pe : PE X a (tQ F f)) (pe' : PE X b (tQ F f')) :
    ItE F X true (.Tuple elts kk tpos) (.Call (.Name "zip" p) [a, b] [] pos) (itZ f f') := by
  refine ⟨_, RZ.pi_zipA hg hm (pa2 hp hp' pe pe') (star_cons hp X.env) (st1 hp'), fun σ H g ρ st R h k SR q c => ?_⟩
  have q : Post F g H σ ((f ρ >>= fun d => f' ρ >>= fun e => zipM d e >>= h) st) k := by rw [← it_bind2]; exact q
  refine tQ.use SR q fun d g1 H1 st1 x gr1 R1 rx q1 => ?_
  refine tQ.use R1 q1 fun e g2 H2 st2 y gr2 R2 ry q2 => ?_
  rw [hK]
  have rx := rx.grow gr2
  have key : ∀ {d : Dn.D} {v : V}, RepQ F.K F.pa g2 H2 v d → ∀ l, d = .lst l → ∃ a xs, v = .ref a ∧ RepVs F.K F.pa g2 xs l ∧ ∀ (g : Gh) (H : Hp), Grow g2 H2 g H → Sub g H → SqL F.K H a xs := by
    intro d v rv l el
    subst el
    rcases rv with rv | ⟨a, xs, ds, rfl, ed, h1, h2, r1⟩
    · obtain ⟨a, xs, rfl, h1, r1⟩ := rv.lst_inv
      exact ⟨a, xs, rfl, r1, fun g H gr sb => SqL.of (sb _ _ (gr.le.fz _ _ h1))⟩
    · cases ed
      exact ⟨a, xs, rfl, r1, fun g H gr sb => SqL.of (gr.keep _ _ h1 h2 (fun ps w => by cases w))⟩
  unfold zipM at q2
  split at q2
  · obtain ⟨a1, xs, rfl, r1, k1⟩ := key rx _ rfl
    obtain ⟨a2, ys, rfl, r2, k2⟩ := key ry _ rfl
    refine ⟨a1, a2, xs, ys, rfl, .inl ⟨k1 g2 H2 (Grow.refl _ _) R2.sub, k2 g2 H2 (Grow.refl _ _) R2.sub, ?_⟩⟩
    refine c _ g2 H2 st2 _ (gr1.trans gr2) R2 ?_ q2
    exact itd_zip (go' := fun _ _ => True) (S := fun H a xs => SqL F.K H a xs) (S' := fun H a xs => SqL F.K H a xs) _ (fun _ _ => rfl) (fun _ _ => rfl) (fun _ _ _ _ => rfl) (fun g H z sb => k1 g H (by rw [if_pos rfl] at z; exact z) sb) (fun g H z sb => k2 g H (by rw [if_pos rfl] at z; exact z) sb) (fun g H z => by rw [if_pos rfl] at z; exact z.le) r1 r2
  · obtain ⟨a1, xs, rfl, h1, r1⟩ := (repq_tup rx).tup_inv
    obtain ⟨a2, ys, rfl, h2, r2⟩ := (repq_tup ry).tup_inv
    refine ⟨a1, a2, xs, ys, rfl, .inr ⟨R2.sub.sqT h1, R2.sub.sqT h2, ?_⟩⟩
    refine c _ g2 H2 st2 _ (gr1.trans gr2) R2 ?_ q2
    exact itd_zip (go' := fun _ _ => True) (S := fun H a xs => SqT F.K H a xs) (S' := fun H a xs => SqT F.K H a xs) _ (fun _ _ => rfl) (fun _ _ => rfl) (fun _ _ _ _ => rfl) (fun g H z sb => by rw [if_pos rfl] at z; exact sb.sqT (sqT_le z.le.fz h1)) (fun g H z sb => by rw [if_pos rfl] at z; exact sb.sqT (sqT_le z.le.fz h2)) (fun g H z => by rw [if_pos rfl] at z; exact z.le) r1 r2
  · exact (q2 : False).elim
theorem it_zipE (hK : X.K = F.K) {elts : List Expr} {kk : Nat} {f f' : Ev → M Dn.D} (hg : Gl X "zip") (hm : X.mg "zip" = none) (hp : plainE a = true) (hp' : plainE b = true) (pe : PE X a (tE F f)) (pe' : PE X b (tE F f')) :
    ItE F X false (.Tuple elts kk tpos) (.Call (.Name "zip" p) [a, b] [] pos) (itZ f f') := by
  refine ⟨_, RZ.pi_zipA hg hm (pa2 hp hp' pe pe') (star_cons hp X.env) (st1 hp'), fun σ H g ρ st R h k SR q c => ?_⟩
  have q : Post F g H σ ((f ρ >>= fun d => f' ρ >>= fun e => zipM d e >>= h) st) k := by rw [← it_bind2]; exact q
  refine tE.use SR q fun d g1 H1 st1 x gr1 R1 rx q1 => ?_
  refine tE.use R1 q1 fun e g2 H2 st2 y gr2 R2 ry q2 => ?_
  rw [hK]
  have rx := rx.le gr2.le
  unfold zipM at q2
  split at q2
  · obtain ⟨a1, xs, rfl, h1, r1⟩ := rx.lst_inv
    obtain ⟨a2, ys, rfl, h2, r2⟩ := ry.lst_inv
    refine ⟨a1, a2, xs, ys, rfl, .inl ⟨SqL.of (R2.sub _ _ h1), SqL.of (R2.sub _ _ h2), ?_⟩⟩
    refine c _ g2 H2 st2 _ (gr1.trans gr2) R2 ?_ q2
    exact itd_zip (go' := fun _ _ => True) (S := fun H a xs => SqL F.K H a xs) (S' := fun H a xs => SqL F.K H a xs) _ (fun _ _ => rfl) (fun _ _ => rfl) (fun _ _ _ _ => rfl) (fun g H z sb => SqL.of (sb _ _ ((qf z).fz _ _ h1))) (fun g H z sb => SqL.of (sb _ _ ((qf z).fz _ _ h2))) (fun g H z => qf z) r1 r2
  · obtain ⟨a1, xs, rfl, h1, r1⟩ := rx.tup_inv
    obtain ⟨a2, ys, rfl, h2, r2⟩ := ry.tup_inv
    refine ⟨a1, a2, xs, ys, rfl, .inr ⟨R2.sub.sqT h1, R2.sub.sqT h2, ?_⟩⟩
    refine c _ g2 H2 st2 _ (gr1.trans gr2) R2 ?_ q2
    exact itd_zip (go' := fun _ _ => True) (S := fun H a xs => SqT F.K H a xs) (S' := fun H a xs => SqT F.K H a xs) _ (fun _ _ => rfl) (fun _ _ => rfl) (fun _ _ _ _ => rfl) (fun g H z sb => sb.sqT (sqT_le (qf z).fz h1)) (fun g H z sb => sb.sqT (sqT_le (qf z).fz h2)) (fun g H z => qf z) r1 r2
  · exact (q2 : False).elim
/-! ### {"k": v, ..}: a new mutable thing -/
def newC (c : Cel) : M D := fun st => .ok (.cel st.length) (st ++ [c])
def celE (ks : List Str) (fs : List (Ev → M D)) : Ev → M D := fun ρ => do
  let ds ← (fs.foldr aC aN) ρ
  newC (ks.zip ds)
end
/-! ### calls -/
structure FnG (P : Program) (w : World) (K : PySem.W.Frag) (mg : Str → Option Value) (base : Heap) (CX : CXT) (k : Nat) (f : Addr) (fd : FuncData) (ps : List Str) (sp : Sp) : Prop where
  len : ∀ vs H Q E, sp vs H Q E → vs.length = ps.length
  run : ∀ (A : Around) (outer : List PySem.Env) (s : Shared) (H : Hp) (args : Args) (us : List Value) (vs : List V) (Q : VK) (E : XK), Room k A → A.guards = some [] → Env0 P w K mg base A outer s H → BindsTo s fd args (ps.zip us) → Vals vs us → sp vs H Q E →
    codeAny (model P w) A (.call (.ref f) args) (CR CX outer P w H s Q E) s
section
variable {X : Cx} {CX : CXT} {k : Nat} {f C : Addr} {fd : FuncData} {ps : List Str} {sp : Sp} {E : L2.St → XK} {x m : Str} {p pos apos : Pos} {e o : Expr} {es : List Expr} {ta : TE} {t : TA}
theorem run_fnG {pins : List (Addr × Obj)} {σ : L2.St} {H : Hp} {s : Shared} {Q : VK} {us : List Value} {vs : List V} (F : FnG X.prog X.w X.K X.mg X.base CX k f fd ps sp) (hr : Room k X.A) (hgd : X.A.guards = some []) (hb : Binds X.K fd ps []) (hx : PassesAt CX X σ (E σ))
    (I : Inv X pins σ H s) (r : Vals vs us) (h : sp vs H Q (E σ)) : wpAny (model X.prog X.w) X.A (call (.ref f) us) (EP X pins σ Q) X.xe s := by
  have hl : us.length = ps.length := by rw [← r.length]; exact F.len _ _ _ _ h
  have b := hb s us I.kIn (by rw [List.append_nil]; exact hl)
  rw [List.append_nil] at b
  refine wpAny_call (codeAny_mono (F.run X.A X.stack s H ⟨us, []⟩ us vs Q (E σ) hr hgd I.env0 b r h) fun r s' hq => ?_)
  cases r with
  | error e => exact hx pins H s e s' I hq
  | ok fl =>
    cases fl with
    | ret u => exact I.after hq
    | next => exact False.elim hq
    | brk => exact False.elim hq
    | cont => exact False.elim hq
theorem pe_callG (F : FnG X.prog X.w X.K X.mg X.base CX k f fd ps sp) (hr : Room k X.A) (hgd : X.A.guards = some []) (hg : Gl X x) (hm : X.mg x = some (.ref f)) (hk : PySem.W.keepIn X.K (.ref f) = true) (hb : Binds X.K fd ps []) (hx : ∀ σ, PassesAt CX X σ (E σ))
    (ha : PA X (e :: es) t) (hdb : (x == ("__debug__" : Str)) = false) (he : starEach (e :: es) X.env = (false, eval e X.env) :: starEach es X.env) (hpl : (backTo pos (starEach es X.env)).any (·.1) = false) :
    PE X (.Call (.Name x p) (e :: es) [] pos) (tCallS sp E t) := by
  refine ⟨fun pins s σ H Q I h => ?_⟩
  refine wpAny_Call_Name_kw (ld_glob I hg hm ?_ hdb)
  refine PySem.W.callWith_K (h₀ := X.base) I.ok.mod.kin hk (thn (ha.run pos pins s σ H _ I h) fun us s1 ⟨vs, H1, I1, r, q⟩ => ⟨I1.kIn, ?_⟩) he hpl
  exact run_fnG F hr hgd hb (hx σ) I1 r q
end
/-- what a def promises: it computes h -/
def spD (K : PySem.W.Frag) (pa : PAd) (exF : List (List Str)) (n : Nat) (h : List D → M RV) : Sp := fun vs H Q E => ∃ g ds st, Sub g H ∧ StoR K pa g H st ∧ RepVs K pa g vs ds ∧ vs.length = n ∧
  Post ⟨K, pa, exF, g, H, fun cls dx _ H' => E cls dx H', none⟩ g H [] (h ds st) fun r g' H' _ => ∀ v, RVR K pa H g' H' v r → Q v H'
def callE (n : Nat) (h : List D → M RV) (fs : Ev → M (List D)) : Ev → M RV := fun ρ => do let ds ← fs ρ; if ds.length = n then h ds else stuck
theorem ExcR.other {F F' : Fm} (h1 : F.K = F'.K) (h2 : F.pa = F'.pa) (h3 : F.exF = F'.exF) {g : Gh} {cls : Value} {dx : Option Addr} {i : Nat} {fs : List D} (h : ExcR F g cls dx i fs) : ExcR F' g cls dx i fs := by
  obtain ⟨C, d, ps, names, a1, a2, a3, a4, a5, a6, a7⟩ := h
  exact ⟨C, d, ps, names, by rw [← h2]; exact a1, a2, a3, a4, by rw [← h3]; exact a5, a6, by rw [← h1, ← h2]; exact a7⟩
section
variable {F : Fm} {X : Cx} {k n : Nat} {f : Addr} {fd : FuncData} {ps : List Str} {x : Str} {p pos : Pos} {e : Expr} {es : List Expr}
theorem Post.conv {F' : Fm} {α : Type} {g : Gh} {H : Hp} {σ σ' : L2.St} {r : Res α} {k k' : α → Gh → Hp → Store → Prop} (h1 : F.K = F'.K) (h2 : F.pa = F'.pa) (h3 : F.exF = F'.exF) (hW : ∀ cls dx H, F.W cls dx σ H → F'.W cls dx σ' H)
    (p : Post F g H σ r k) (hk : ∀ a g' H' st', k a g' H' st' → k' a g' H' st') : Post F' g H σ' r k' := by
  cases r with
  | ok a st' => exact fun g' H' gr sb so => hk _ _ _ _ (p g' H' gr sb (by rw [h1, h2]; exact so))
  | rz i fs st' => exact fun g' H' cls dx gr sb so ex => hW _ _ _ (p g' H' cls dx gr sb (by rw [h1, h2]; exact so) (ex.other h1.symm h2.symm h3.symm))
  | stuck => exact p
theorem callE_mono {h : List D → M RV} {fs : Ev → M (List D)} {σ : L2.St} {H : Hp} {Q : VK} (q : tR F (callE n h fs) σ H Q) : tCallS (spD F.K F.pa F.exF n h) (WE F.W) (tA F fs) σ H Q := by
  obtain ⟨g, ρ, st, R, q⟩ := q
  refine tA.use R q fun ds g1 H1 st1 vs gr1 R1 rvs q1 => ?_
  split at q1
  · rename_i hl
    refine ⟨g1, ds, st1, R1.sub, R1.sto, rvs, by rw [rvs.1, hl], ?_⟩
    exact Post.conv (F := F) (σ := σ) rfl rfl rfl (fun cls dx H h => h) q1 fun r g' H' st' hk v rv => hk v (rv.base gr1)
  · exact q1.elim
theorem pe_callE {h : List D → M RV} {fs : Ev → M (List D)} (hK : X.K = F.K) (G : FnG X.prog X.w X.K X.mg X.base (L2.CX X.prog X.w) k f fd ps (spD F.K F.pa F.exF n h)) (hr : Room k X.A) (hgd : X.A.guards = some []) (hg : Gl X x) (hm : X.mg x = some (.ref f)) (hk : PySem.W.keepIn X.K (.ref f) = true) (hb : Binds X.K fd ps [])
    (tk : Takes X F.W) (hp : ∀ e' ∈ e :: es, plainE e' = true) (ha : PA X (e :: es) (tA F fs)) (hdb : (x == ("__debug__" : Str)) = false) : PE X (.Call (.Name x p) (e :: es) [] pos) (tR F (callE n h fs)) :=
  PE.mono (fun _ _ _ q => callE_mono q) (pe_callG G hr hgd hg hm hk hb (fun σ => passAt tk σ) ha hdb (star_cons (hp e (by simp)) X.env) (star_any fun e' he => hp e' (by simp [he])))
theorem pe_callE0 {h : List D → M RV} (hK : X.K = F.K) (G : FnG X.prog X.w X.K X.mg X.base (L2.CX X.prog X.w) k f fd ps (spD F.K F.pa F.exF n h)) (hr : Room k X.A) (hgd : X.A.guards = some []) (hg : Gl X x) (hm : X.mg x = some (.ref f)) (hk : PySem.W.keepIn X.K (.ref f) = true) (hb : Binds X.K fd ps [])
    (tk : Takes X F.W) (hdb : (x == ("__debug__" : Str)) = false) : PE X (.Call (.Name x p) [] [] pos) (tR F (callE n h aN)) := by
  refine ⟨fun pins s σ H Q I q => ?_⟩
  have q := callE_mono q
  obtain ⟨g, ρ, st, R, q⟩ := q
  have q := (Post.pure (a := ([] : List D)) q R.sub R.sto) [] RepVs.nil
  refine wpAny_Call_Name_kw (ld_glob I hg hm ?_ hdb)
  exact PySem.W.callWith_K0 I.kIn hk (run_fnG (us := []) (E := WE F.W) G hr hgd hb (passAt tk σ) I .nil q)

/-! ### a def's body -/
def startE (N : List Str) (ds : List D) : Ev := ds.map .val ++ List.replicate (N.length - ds.length) .un
def runF (N : List Str) (ss : SS) (ds : List D) : M RV := fun st => match ss (startE N ds) st with
  | .nx _ st' => .ok (.val .non) st'
  | .ret r st' => .ok r st'
  | .rz i fs _ st' => .rz i fs st'
  | _ => .stuck
theorem start_rel {K : PySem.W.Frag} {pa : PAd} {exF : List (List Str)} {W : WX} {N : List Str} {g : Gh} {H : Hp} {st : Store} {vs : List V} {ds : List D} (sb : Sub g H) (so : StoR K pa g H st) (r : RepVs K pa g vs ds) :
    SRel ⟨K, pa, exF, g, H, W, none⟩ g H (L2.start N vs) (startE N ds) st := by
  refine ⟨Grow.refl _ _, sb, so, by simp [L2.start, startE, r.1], fun i s h => ?_, fun i j a l l' _ h1 _ _ _ => ?_⟩
  · by_cases hi : i < ds.length
    · have e : (startE N ds)[i]? = some (.val ds[i]) := by
        unfold startE
        rw [List.getElem?_append_left (by simpa using hi)]
        simp [hi]
      rw [e] at h; cases h
      have hv : i < vs.length := by rw [r.1]; exact hi
      refine ⟨vs[i], ?_, r.2 i _ _ (by simp [hv]) (by simp [hi])⟩
      unfold L2.start
      rw [List.getElem?_append_left (by simpa using hv)]
      simp [hv]
    · have : s = .un := by
        unfold startE at h
        rw [List.getElem?_append_right (by simpa using hi)] at h
        have := List.mem_of_getElem? h
        exact (List.mem_replicate.mp this).2
      subst this
      trivial
  · exfalso
    by_cases hi : i < ds.length
    · have e : (startE N ds)[i]? = some (.val ds[i]) := by
        unfold startE
        rw [List.getElem?_append_left (by simpa using hi)]
        simp [hi]
      rw [e] at h1; cases h1
    · unfold startE at h1
      rw [List.getElem?_append_right (by simpa using hi)] at h1
      have := List.mem_of_getElem? h1
      have := (List.mem_replicate.mp this).2
      cases this
/-- the body's wish from the call's -/
theorem runF_post {K : PySem.W.Frag} {pa : PAd} {exF : List (List Str)} {N : List Str} {ss : SS} {g : Gh} {H : Hp} {st : Store} {ds : List D} {Q : VK} {E : XK}
    (p : Post ⟨K, pa, exF, g, H, fun cls dx _ H' => E cls dx H', none⟩ g H [] (runF N ss ds st) fun r g' H' _ => ∀ v, RVR K pa H g' H' v r → Q v H') :
    RPost ⟨K, pa, exF, g, H, fun cls dx _ H' => E cls dx H', none⟩ g { nx := fun _ H' => Q .non H', rt := Q } (ss (startE N ds) st) := by
  unfold runF at p
  cases e : ss (startE N ds) st with
  | nx ρ st' => simp only [e] at p; exact fun g' H' σ l R => p g' H' R.gr R.sub R.sto .non .non
  | ret r st' => simp only [e] at p; exact fun g' H' v gr sb so rv => p g' H' gr sb so v rv
  | rz i fs ρ st' => simp only [e] at p; exact fun g' H' σ cls dx l R ex => p g' H' cls dx R.gr R.sub R.sto ex
  | brk ρ st' => simp only [e] at p; exact p.elim
  | ct ρ st' => simp only [e] at p; exact p.elim
  | stuck => simp only [e] at p; exact p.elim
end
end Dn

set_option Elab.async false
set_option linter.all false
set_option maxRecDepth 100000
set_option maxHeartbeats 4000000
/-! Den, part J: errors: made, raised, caught. -/
namespace Dn
open PySem PySem.Spec L2

/-! ### Base.__init__(self, ..), Base an own class over ValueError -/
structure BaseC (K : PySem.W.Frag) (M : Addr) : Prop where
  sp : PySem.W.specialIn K (.ref M) "__getattribute__" = some (some (.builtin "type.__getattribute__"))
  rd : PySem.W.readsIn K M (.type "type") = true
  fi : PySem.W.findCls K (.ref M) (.type "type") "__init__" = some (.val (.builtin "ValueError.__init__"))
section
variable {X : Cx} {e : Expr} {es : List Expr} {ta : TA} {x : Str} {p1 p2 pos : Pos} {M : Addr}
theorem pe_meinit {pl : Sem Bool} (hg : Gl X x) (hm : X.mg x = some (.ref M)) (B : BaseC X.K M) (ha : PA X (e :: es) ta)
    (hc : eval (.Call (.Attribute (.Name x p1) "__init__" p2) (e :: es) [] pos) X.env = (do
      let ov ← eval (.Name x p1) X.env
      standAt p2.atName
      let (f, first) ← holding [ov] (getMethod ov "__init__" pl)
      callWith pos f first (backTo pos (starEach (e :: es) X.env)) (backToKw pos (keywordEach [] X.env))) := by rfl)
    (he : starEach (e :: es) X.env = (false, eval e X.env) :: starEach es X.env := by rfl) (hpl : (backTo pos (starEach es X.env)).any (·.1) = false := by rfl) (hdb : (x == ("__debug__" : Str)) = false := by decide) :
    PE X (.Call (.Attribute (.Name x p1) "__init__" p2) (e :: es) [] pos) (tVeI X.K ta) := by
  refine ⟨fun pins s σ H Q I h => ?_⟩
  refine PySem.W.methodCall_KW (ld_glob I hg hm ?_ hdb) hc
  refine PySem.W.method_cls I.kIn B.sp (PySem.W.cls_value I.kIn B.rd B.fi (by decide +kernel) ?_)
  show wpAny _ _ (callWith pos (Value.builtin "ValueError.__init__") [] (backTo pos (starEach (e :: es) X.env)) []) _ _ _
  refine PyProof.Rows.callWith_method1 (thn (ha.run pos pins _ σ H _ (I.tok _) h) fun us s1 ⟨vs, H1, I1, r1, a, C, ws, ev, hl, T, ea, q⟩ => ?_) he hpl
  subst ev
  cases r1 with
  | @cons _ u0 _ ur ra rw' =>
    obtain rfl : u0 = Value.ref a := ra
    have hlen : ur.length ≤ sizeLine := by
      rw [← Paired.length rw', sizeLine_eq]
      omega
    exact oinit_ok T I1 ea hlen fun s' J => ⟨.non, H1, J, rfl, q⟩
end
theorem mcallPos {o : Expr} {env : Env} {apos pos : Pos} (h : (apos.endLine == pos.line) = true) : methodCallPos true o env apos pos = pure pos := by
  unfold methodCallPos
  rw [h]; rfl
theorem init_form (env : Env) {p1 p2 p3 p4 pos : Pos} (m : Str) (j : Nat) (hl : (p2.endLine == pos.line) = true) : eval (.Call (.Attribute (.Name "MinorError" p1) "__init__" p2) [.Name "self" p3, .Constant (.str m) j p4] [] pos) env = (do
      let ov ← eval (.Name "MinorError" p1) env
      standAt p2.atName
      let (f, first) ← holding [ov] (getMethod ov "__init__" (do return (← importBound (.Name "MinorError" p1) env).getD true))
      callWith pos f first (backTo pos (starEach [.Name "self" p3, .Constant (.str m) j p4] env)) (backToKw pos (keywordEach [] env))) := by
  show (do
    let ov ← eval (.Name "MinorError" p1) env
    standAt p2.atName
    let (f, first) ← holding [ov] (getMethod ov "__init__" (do return (← importBound (.Name "MinorError" p1) env).getD true))
    let callPos ← methodCallPos true (.Name "MinorError" p1) env p2 pos
    callWith callPos f first (backTo pos (starEach [.Name "self" p3, .Constant (.str m) j p4] env)) (backToKw pos (keywordEach [] env))) = _
  rw [mcallPos hl]
  rfl
/-! ### an error's own __init__: the base's, then one store a field -/
inductive InitS : List Str → List Stmt → Prop
  | nil : InitS [] []
  | cons {n : Str} {ns : List Str} {p1 p2 p3 p4 : Pos} {r : List Stmt} : InitS ns r → InitS (n :: ns) (.Assign [.Attribute (.Name "self" p1) n p2] (.Name n p3) p4 :: r)
inductive InitB (ns : List Str) : List Stmt → Prop
  | mk {p1 p2 p3 p4 p5 p6 : Pos} {m : Str} {j : Nat} {r : List Stmt} : InitS ns r → (p2.endLine == p5.line) = true → InitB ns (.Expr (.Call (.Attribute (.Name "MinorError" p1) "__init__" p2) [.Name "self" p3, .Constant (.str m) j p4] [] p5) p6 :: r)
def tIS (K : PySem.W.Frag) : Nat → List Str → TS
  | _, [] => tNext
  | i, n :: ns => tSeq (tOst K n (tVar 0) (tVar i)) (tIS K (i + 1) ns)
theorem pss_init {X : Cx} {r : List Stmt} {ns : List Str} (h : InitS ns r) : ∀ (i : Nat), (∀ (k : Nat) n, ns[k]? = some n → X.N[i + k]? = some n ∧ Vis X.env.scope n ∧ (n == ("__debug__" : Str)) = false ∧ (n == ("__classdict__" : Str)) = false) → X.N[0]? = some ("self" : Str) → Vis X.env.scope ("self" : Str) → PSs X r (tIS X.K i ns) := by
  induction h with
  | nil => exact fun i _ _ _ => pss_nil
  | @cons n ns p1 p2 p3 p4 r h ih =>
    intro i hn h0 hv
    obtain ⟨a1, a2, a3, a4⟩ := hn 0 n rfl
    exact pss_cons (ps_ost (pe_var h0 hv) (pe_var a1 a2 a3 a4)) (ih (i + 1) (fun k m hk => by
      have := hn (k + 1) m hk
      rw [show i + 1 + k = i + (k + 1) by omega]
      exact this) h0 hv)
def spI (C : Addr) (ns : List Str) : Sp := fun vs H Q _ => ∃ a xs, vs = .ref a :: xs ∧ xs.length = ns.length ∧ H a = some (exo a C none) ∧ ∀ dx, H dx = none → dx ≠ a → Q .non (upd (upd H dx (exd dx (ns.zip xs).reverse)) a (exo a C (some dx)))
/-- the stores behind the first -/
theorem tIS_run {K : PySem.W.Frag} {C : Addr} (T : OexC K C) : ∀ (ns : List Str) (i : Nat) (xs : List V) (σ : L2.St) (H : Hp) (a dx : Addr) (fs : List (Str × V)) (D : Ends), (∀ n ∈ ns, PySem.W.findIn K (.ref C) n = some none) → σ[0]? = some (some (.ref a)) → xs.length = ns.length → (∀ (k : Nat) x, xs[k]? = some x → σ[i + k]? = some (some x)) →
    dx ≠ a → fs.length + ns.length ≤ 900 → D.nx σ (upd (upd H dx (exd dx ((ns.zip xs).reverse ++ fs))) a (exo a C (some dx))) → tIS K i ns D σ (upd (upd H dx (exd dx fs)) a (exo a C (some dx)))
  | [], i, xs, σ, H, a, dx, fs, D, _, _, hl, _, _, _, q => by
    have : xs = [] := by simpa using hl
    subst this
    exact q
  | n :: ns, i, [], σ, H, a, dx, fs, D, _, _, hl, _, _, _, q => by simp at hl
  | n :: ns, i, x :: xs, σ, H, a, dx, fs, D, hno, h0, hl, hx, ne, hf, q => by
    simp only [List.length_cons] at hf
    refine ⟨x, by have := hx 0 x rfl; simpa using this, .ref a, h0, a, C, rfl, T, hno n (by simp), .inr ⟨dx, fs, upd_same, by rw [upd_ne ne, upd_same], by omega, ?_⟩⟩
    have e : upd (upd (upd H dx (exd dx fs)) a (exo a C (some dx))) dx (exd dx ((n, x) :: fs)) = upd (upd H dx (exd dx ((n, x) :: fs))) a (exo a C (some dx)) := by
      funext b
      by_cases h1 : b = dx
      · subst h1; rw [upd_same, upd_ne ne, upd_same]
      · rw [upd_ne h1]
        by_cases h2 : b = a
        · subst h2; rw [upd_same, upd_same]
        · rw [upd_ne h2, upd_ne h2, upd_ne h1, upd_ne h1]
    rw [e]
    refine tIS_run T ns (i + 1) xs σ H a dx ((n, x) :: fs) D (fun m hm => hno m (by simp [hm])) h0 (by simpa using hl) (fun k y hk => by
      have := hx (k + 1) y hk
      rw [show i + 1 + k = i + (k + 1) by omega]
      exact this) ne (by simp only [List.length_cons]; omega) ?_
    simpa using q
section
variable {P : Program} {w : World} {K : PySem.W.Frag} {mg : Str → Option Value} {base : Heap} {C M f : Addr} {fd : FuncData} {qual : Str} {ns : List Str} {st : Stmt}
theorem ok_init (F : Fun K "__init__" qual st f fd) (T : OexC K C) (B : BaseC K M) (hM : mg ("MinorError" : Str) = some (.ref M)) (hI : InitB ns (defBody st)) (S : FnScope (("self" : Str) :: ns) (("self" : Str) :: ns) (defScope st)) (hgb : (defScope st).names.lookup ("MinorError" : Str) = some .globalImplicit)
    (hns : ∀ n ∈ ns, PySem.W.findIn K (.ref C) n = some none ∧ (n == ("__debug__" : Str)) = false ∧ (n == ("__classdict__" : Str)) = false) (h1 : 1 ≤ ns.length) (h9 : ns.length ≤ 800) :
    FnOk P w K mg base (L2.CX P w) 1 f fd (("self" : Str) :: ns) (spI C ns) := by
  have hvis : ∀ n ∈ ("self" : Str) :: ns, Vis (defScope st) n := fun n hn => by
    rcases S.par n hn with k | k
    · exact .inl k
    · exact .inr (.inl k)
  refine F.okX S (fun vs H Q E h => ?_) (fun cdv A outer s H vs Q E hr h => ?_)
  · obtain ⟨a, xs, rfl, hl, _⟩ := h
    simp [hl]
  · obtain ⟨a, xs, rfl, hl, ha, q⟩ := h
    generalize hb : defBody st = body at hI
    cases hI with
    | @mk p1 p2 p3 p4 p5 p6 m j r hs hpl =>
      refine ⟨_, pss_cons (ps_expr (pe_meinit hgb hM B (pa_cons (pe_var (i := 0) rfl (hvis _ (by simp))) (pa_cons pe_str pa_nil)) (init_form _ m j hpl))) (pss_init hs 1 (fun k n hk => ⟨?_, hvis n (by simp [List.mem_of_getElem? hk]), (hns n (List.mem_of_getElem? hk)).2⟩) rfl (hvis _ (by simp))), ?_⟩
      · show (("self" : Str) :: ns)[1 + k]? = some n
        rw [Nat.add_comm]; exact hk
      · have h0 : (L2.start (("self" : Str) :: ns) (V.ref a :: xs))[0]? = some (some (V.ref a)) := rfl
        refine ⟨_, h0, a, C, [.str m], rfl, by simp, T, ha, ?_⟩
        have hxs : ∀ (k : Nat) x, xs[k]? = some x → (L2.start (("self" : Str) :: ns) (V.ref a :: xs))[1 + k]? = some (some x) := fun k x hk => by
          have e : L2.start ("self" :: ns) (V.ref a :: xs) = some (V.ref a) :: xs.map some := by
            unfold L2.start
            simp [hl]
          rw [e, Nat.add_comm, List.getElem?_cons_succ, List.getElem?_map, hk]
          rfl
        cases ns with
        | nil => simp at h1
        | cons n ns =>
          cases xs with
          | nil => simp at hl
          | cons x xs =>
            refine ⟨x, by have := hxs 0 x rfl; simpa using this, .ref a, h0, a, C, rfl, T, (hns n (by simp)).1, .inl ⟨ha, fun dx hd ne => ?_⟩⟩
            refine tIS_run T ns 2 xs _ H a dx [(n, x)] _ (fun m hm => (hns m (by simp [hm])).1) h0 (by simpa using hl) (fun k y hk => ?_) ne (by simp only [List.length_cons, List.length_nil] at *; omega) ?_
            · have := hxs (k + 1) y hk
              rw [show 2 + k = 1 + (k + 1) by omega]
              exact this
            · have := q dx hd ne
              simpa using this
end
end Dn

set_option Elab.async false
set_option linter.all false
set_option maxRecDepth 100000
set_option maxHeartbeats 4000000
/-! Den, part K: several 'except X as n' clauses with one name. -/
namespace Dn
open PySem PySem.Spec PyProof.Rows L2
/-- what the clauses wish of an exception of the body, one after the other; slot i is the name's -/
def wManyAs (K : PySem.W.Frag) (Wout : WX) (i : Nat) (D : Ends) : List (Value × (Addr → Value → Option Addr → TS)) → WX
  | [] => Wout
  | (c, ts) :: r => fun cls d σ H => ∃ b, PySem.W.exmOne K cls c = some b ∧ (b = true → ∀ a, H a = none → ts a cls d { nx := fun σ' H' => D.nx (σ'.set i none) H', rt := D.rt, bk := fun σ' H' => D.bk (σ'.set i none) H', ct := fun σ' H' => D.ct (σ'.set i none) H' } (σ.set i (some (.ref a))) H) ∧ (b = false → wManyAs K Wout i D r cls d σ H)
inductive HdsAs (X : Cx) (n : Str) : List ExceptHandler → List (Value × (Addr → Value → Option Addr → TS)) → Prop
  | nil : HdsAs X n [] []
  | cons {x : Str} {c : Value} {ts : Addr → Value → Option Addr → TS} {b₀ : Stmt} {suite : List Stmt} {np pos' : Pos} {hds : List ExceptHandler} {l : List (Value × (Addr → Value → Option Addr → TS))} (hc : Names X x c)
      (hsu : ∀ (a : Addr) (oe : Obj) (cls : Value) (d : Option Addr) (pn : List (Addr × Obj)), Zc cls d oe → (∃ vs, oe.data = .fields vs) → PSs (X.suite a ((a, oe) :: pn)) (b₀ :: suite) (ts a cls d)) (r : HdsAs X n hds l) :
      HdsAs X n (.ExceptHandler (some (.Name x np)) (some n) (b₀ :: suite) pos' :: hds) ((c, ts) :: l)
section
variable {X : Cx} {n : Str} {i : Nat} {body : List Stmt} {h₀ : ExceptHandler} {hds : List ExceptHandler} {l : List (Value × (Addr → Value → Option Addr → TS))} {pos : Pos} {tb : WX → TS} {Wout : WX}
theorem ps_try_manyAs (hs : X.stack = X.env :: X.outer) (hf : X.env.frame = some X.env.locals) (hN : X.N.Nodup) (hi : X.N[i]? = some n) (hln : X.env.kindOf n = some .local) (tk : Takes X Wout)
    (hb : ∀ (W : WX) (pn : List (Addr × Obj)) (xe : Value → Shared → Prop), Takes (X.tr pn xe) W → PassesOwn (model X.prog X.w) X.A X.env xe → PSs (X.tr pn xe) body (tb W))
    (hh : HdsAs X n (h₀ :: hds) l) : PS X (.Try body (h₀ :: hds) [] [] pos) (fun D σ H => tb (wManyAs X.K Wout i D l) D σ H) := by
  refine ⟨fun pins s σ H D I h => ?_⟩
  have ok := I.ok
  have hloc : Loc X.env.scope n := .inl hln
  have hfr : X.A.frames = some (X.env :: X.outer) := by rw [ok.frames, hs]
  refine wpAny_Try_except ?_
  refine wpAny_mono ((hb (wManyAs X.K Wout i D l) (X.pn ++ pins) (fun e s₁ => wpAny (model X.prog X.w) X.A (noteFrame e X.env) (fun _ s₂ => wpAny (model X.prog X.w) X.A (setFlight e none) (fun _ s₃ =>
    wpAny (model X.prog X.w) X.A (handleBy e X.env (h₀ :: hds)) (SP X pins D) X.xe s₃) X.xe s₂) X.xe s₁) (fun u s' xx => ?_) PassesOwn.looking).run [] s σ H D (I.toTry _) h) (fun f s1 hsp => ?_) (fun e s1 he => he)
  · -- the catch
    obtain ⟨a, B, sI, pins', σ', H', cls, d, rfl, J', nb, up, sky, na, os, ag, w⟩ := xx
    have J : Inv X pins σ' H' sI := J'.ofTry ok
    have sky' : Sky B (X.env :: X.outer) a (Zc cls d) X.env.locals s'.heap := by rw [← hs]; exact sky
    show wpAny (model X.prog X.w) X.A (noteFrame (.ref a) X.env) _ _ _
    refine Sky.land Zc.steady hfr hf sky' fun h3 fl3 up3 => ?_
    have J3 : Inv X pins σ' H' { s' with heap := h3 } := J.landed nb fl3.1 (up.trans up3) os ag
    obtain ⟨oe3, vs3, he3, hz3, hd3⟩ := fl3.there
    have notFr : ∀ {h : Heap} {o : Obj} {vs : Array Value}, h.FunFrames B (X.env :: X.outer) → h.get? a = some o → o.data = .fields vs → a ∉ frs (X.env :: X.outer) := fun {h o vs} ff e dd hm => by
      obtain ⟨_, o', e', hnf⟩ := ff.mem hm
      rw [e] at e'; cases e'
      exact hnf _ dd
    have nfr := notFr fl3.2.2.1 he3 hd3
    have nL : a ≠ X.env.locals := fun z => nfr (List.mem_filterMap.mpr ⟨X.env, List.mem_cons_self, by rw [hf, z]⟩)
    have nF : a ∉ X.fs := fun hm => by
      obtain ⟨e, he, q⟩ := List.mem_filterMap.mp hm
      exact nfr (List.mem_filterMap.mpr ⟨e, List.mem_cons_of_mem _ he, q⟩)
    have S3 := J3.suite he3 hd3 na nL nF
    have go : ∀ {hds' : List ExceptHandler} {l' : List (Value × (Addr → Value → Option Addr → TS))}, HdsAs X n hds' l' → wManyAs X.K Wout i D l' cls d σ' H' →
        wpAny (model X.prog X.w) X.A (handleBy (.ref a) X.env hds') (SP X pins D) X.xe { s' with heap := h3 } := by
      intro hds' l' hk
      induction hk with
      | nil =>
        intro w
        refine wpAny_handleBy_nil ?_
        obtain ⟨k1, k2, k3, oe, vs, T, oT, ts', he, hz, hd, h1, hr⟩ := id fl3
        unfold PySem.passOn
        refine wpAny_bind (wpAny_field he hd h1 ?_)
        rw [if_neg (show ¬ ((Value.ref T == Value.none) = true) from by simp)]
        have fin : wpAny (model X.prog X.w) X.A (setFlight (.ref a) X.env.frame) (fun _ s4 => wpAny (model X.prog X.w) X.A (throw (.ref a) : Sem Flow) (SP X pins D) X.xe s4) X.xe { s' with heap := h3 } := by
          rw [hf]
          refine HandSPX.setFlight_upZ fl3 fun h4 hh4 up4 => wpAny_throw (tk _ _ ?_)
          exact ⟨a, B, sI, pins, σ', H', cls, d, rfl, J, nb, (up.trans up3).trans up4, .inr (.inr (by rw [hs]; exact hh4)), na, os, ag, w⟩
        first
          | exact wpAny_bind (wpAny_pure (wpAny_bind fin))
          | exact wpAny_bind fin
      | @cons x c ts b₀ suite np pos' hds2 l2 hc hsu r ih =>
        intro w
        obtain ⟨b, hb1, hyes, hno⟩ := w
        refine wpAny_handleBy_cons (codeAny_handlers_test ?_) (by intro q; cases q)
        have LT : PySem.W.Looks (model X.prog X.w) h3 (typeOf (.ref a)) cls := fun A Q E s k q => wpAny_typeOf_ref (k _ _ he3) (by rw [hz3.1]; exact q)
        have LM := PySem.W.exm_one (M := model X.prog X.w) (J3.kIn) LT hb1
        have test : ∀ {Q : Value → Shared → Prop} {E : Value → Shared → Prop}, Q c { s' with heap := h3 } → wpAny (model X.prog X.w) (X.A.mark (some (.ref a))) (eval (.Name x np) X.env) Q E { s' with heap := h3 } := fun {Q E} q => by
          obtain ⟨hg, hdbg, hm | ⟨hm, hv, hnn⟩⟩ := hc
          · exact ld_glob (X := X.suite a ((a, oe3) :: (X.pn ++ pins))) S3 hg hm q hdbg
          · exact ld_blt (X := X.suite a ((a, oe3) :: (X.pn ++ pins))) S3 hg hm hv q hnn hdbg
        refine test (LM.here ?_)
        cases b with
        | true =>
          refine codeAny_handlers_suite_as ?_
          refine HandSPX.lands_againZ fl3 fun h4 fl4 up4 => ?_
          have J4 : Inv X pins σ' H' { s' with heap := h4 } := J.landed nb fl4.1 ((up.trans up3).trans up4) os ag
          obtain ⟨oe4, vs4, he4, hz4, hd4⟩ := fl4.there
          have S4 := J4.suite he4 hd4 na nL nF
          refine store_ok (X := X.suite a ((a, oe4) :: (X.pn ++ pins))) (v := .ref a) S4 hN hi hloc rfl (fun s5 S5 => ?_) (.inr hln)
          refine wpAny_mono ((hsu a oe4 cls d (X.pn ++ pins) hz4 ⟨_, hd4⟩).run [] s5 _ H' _ S5 (hyes rfl a na)) (fun f s6 hsp => ?_) (fun _ _ z => False.elim z)
          have end_ : ∀ {σ6 : L2.St} {H6 : Hp} {Q : Shared → Prop}, Inv (X.suite a ((a, oe4) :: (X.pn ++ pins))) [] σ6 H6 s6 → (∀ s7, Inv X pins (σ6.set i none) H6 s7 → Q s7) →
              wpAny (model X.prog X.w) X.A (do bindName X.env n .none; unbindBehindTheSuite X.env n pos') (fun _ s7 => Q s7) X.xe s6 := fun {σ6 H6 Q} S6 hq => gone_ok (S6.unsuite ok) hN hi hln hq
          cases f with
          | next =>
            obtain ⟨σ6, H6, S6, q6⟩ := hsp
            exact end_ S6 fun s7 J7 => ⟨_, _, J7, q6⟩
          | brk =>
            obtain ⟨σ6, H6, S6, q6⟩ := hsp
            exact end_ S6 fun s7 J7 => ⟨_, _, J7, q6⟩
          | cont =>
            obtain ⟨σ6, H6, S6, q6⟩ := hsp
            exact end_ S6 fun s7 J7 => ⟨_, _, J7, q6⟩
          | ret u =>
            obtain ⟨v6, σ6, H6, S6, r6, q6⟩ := hsp
            exact end_ S6 fun s7 J7 => ⟨_, _, _, J7, r6, q6⟩
        | false =>
          show wpAny _ X.A (handleBy (.ref a) X.env hds2) _ _ _
          exact ih (hno rfl)
    exact go hh w
  · cases f with
    | next =>
      obtain ⟨σ', H', J', q⟩ := hsp
      exact wpAny_execs_nil ⟨σ', H', J'.ofTry ok, q⟩
    | brk =>
      obtain ⟨σ', H', J', q⟩ := hsp
      exact ⟨σ', H', J'.ofTry ok, q⟩
    | cont =>
      obtain ⟨σ', H', J', q⟩ := hsp
      exact ⟨σ', H', J'.ofTry ok, q⟩
    | ret u =>
      obtain ⟨v, σ', H', J', r, q⟩ := hsp
      exact ⟨v, σ', H', J'.ofTry ok, r, q⟩
end
end Dn

set_option Elab.async false
set_option linter.all false
set_option maxRecDepth 100000
set_option maxHeartbeats 4000000
/-! Den, part L: raise, try, the fields of an error in hand. -/
namespace Dn
open PySem PySem.Spec PyProof.Rows L2

section
variable {F : Fm} {X : Cx} {D : Ends} {g g' : Gh} {H H' : Hp} {σ : L2.St} {ρ : Ev} {st : Store} {x : Str} {e : Expr} {es : List Expr} {p pos pos' : Pos}
def sRaise (i n : Nat) (fs : Ev → M (List Dn.D)) : SS := fun ρ st => onR (fs ρ st) ρ fun ds st' => if ds.length = n ∧ n ≤ 800 then .rz i ds ρ st' else .stuck
theorem ps_raiseE {i : Nat} {names : List Str} {C fI : Addr} {fd : FuncData} {fs : Ev → M (List Dn.D)} (hK : X.K = F.K) (hc : X.calm = true) (tk : Takes X F.W) (T : OexC X.K C) (iC : PySem.W.findIn X.K (.ref C) "__init__" = some (some (.ref fI))) (tI : PySem.W.typeIn X.K (.ref fI) = some (.type "function"))
    (F1 : FnOk X.prog X.w X.K X.mg X.base (L2.CX X.prog X.w) 1 fI fd (("self" : Str) :: names) (spI C names)) (hr : Room 2 X.A) (hb : Binds X.K fd (("self" : Str) :: names) []) (hx : Passes (L2.CX X.prog X.w) X (fun _ _ _ => False)) (hg : Gl X x) (hm : X.mg x = some (.ref C))
    (hC : F.pa.exA[i]? = some C) (hF : F.exF[i]? = some names) (hp : ∀ e' ∈ e :: es, plainE e' = true) (ha : PA X (e :: es) (tA F fs)) (hdb : (x == ("__debug__" : Str)) = false) :
    PS X (.Raise (some (.Call (.Name x p) (e :: es) [] pos)) none pos') (tS F (sRaise i names.length fs)) := by
  refine PS.mono (fun D σ H ⟨g, ρ, st, R, q⟩ => ?_) (ps_raise (W := F.W) hc tk (pmk_oex (dvs := []) T iC tI F1 hr hb .nil hx hg hm ha hdb (star_cons (hp e (by simp)) X.env) (star_any fun e' he => hp e' (by simp [he]))))
  refine ⟨g, ρ, st, R, (post_of R q).imp fun ds g1 H1 st1 _ _ _ ⟨gr, R1, q1⟩ vs rvs => ?_⟩
  split at q1
  rotate_left
  · exact q1.elim
  rename_i hl
  refine ⟨by rw [rvs.1]; omega, fun a ha => ?_⟩
  refine ⟨a, vs, by simp, by rw [rvs.1, hl.1], upd_same, fun dx hd ne => ?_⟩
  have hd1 : H1 dx = none := by rw [upd_ne ne] at hd; exact hd
  refine ⟨rfl, dx, _, upd_same, by rw [upd_ne ne, upd_same], hd1, ?_⟩
  have e : upd (del (upd (upd (upd H1 a (exo a C none)) dx (exd dx (names.zip vs).reverse)) a (exo a C (some dx))) a) dx (.xd (names.zip vs).reverse) = upd H1 dx (.xd (names.zip vs).reverse) := by
    funext b
    by_cases h1 : b = dx
    · subst h1; rw [upd_same, upd_same]
    · rw [upd_ne h1, upd_ne h1]
      by_cases h2 : b = a
      · subst h2; rw [del_same, ha]
      · rw [del_ne h2, upd_ne h2, upd_ne h1, upd_ne h2]
  rw [e]
  have le := le_put (o := .xd (names.zip vs).reverse) (R1.sub.none hd1)
  exact q1 (g1.put dx (.xd (names.zip vs).reverse)) _ σ (.ref C) (some dx) le (R1.grow (grow_put R1.sub hd1) (sub_put R1.sub) (sto_put R1.sto R1.sub hd1)) ⟨C, dx, vs, names, hC, rfl, rfl, upd_same, hF, by rw [rvs.1, hl.1], rvs.le le⟩
/-! ### try: .. except C as n: .. -/
def noExc (ρ : Ev) : Bool := ρ.all fun s => match s with
  | .exc _ _ => false
  | _ => true
/-- what stands behind a clause: its name is gone -/
def endCl (sl : Nat) : RS → RS
  | .nx ρ st => if noExc (ρ.set sl .un) then .nx (ρ.set sl .un) st else .stuck
  | .brk ρ st => if noExc (ρ.set sl .un) then .brk (ρ.set sl .un) st else .stuck
  | .ct ρ st => if noExc (ρ.set sl .un) then .ct (ρ.set sl .un) st else .stuck
  | .ret r st => .ret r st
  | _ => .stuck
def tryCl (sl : Nat) (i : Nat) (fs : List Dn.D) (ρ : Ev) (st : Store) : List ((Nat → Bool) × SS) → RS
  | [] => .rz i fs ρ st
  | (m, s) :: r => if m i then (if noExc ρ && decide (sl < ρ.length) then endCl sl (s (ρ.set sl (.exc i fs)) st) else .stuck) else tryCl sl i fs ρ st r
def sTry (sl : Nat) (cl : List ((Nat → Bool) × SS)) (b : SS) : SS := fun ρ st => match b ρ st with
  | .rz i fs ρ' st' => tryCl sl i fs ρ' st' cl
  | r => r
abbrev Fm.inCl (F : Fm) (a : Addr) (cls : Value) (d : Option Addr) : Fm := { F with W := fun _ _ _ _ => False, ex := some (a, cls, d) }
theorem noExc_at {ρ : Ev} (h : noExc ρ = true) {i n : Nat} {fs : List Dn.D} (e : ρ[i]? = some (.exc n fs)) : False := by
  have := List.all_eq_true.mp h _ (List.mem_of_getElem? e)
  simp at this
theorem SRel.other {F F' : Fm} (h1 : F.K = F'.K) (h2 : F.pa = F'.pa) (h3 : F.g0 = F'.g0) (h4 : F.H0 = F'.H0) (hn : noExc ρ = true) (R : SRel F g H σ ρ st) : SRel F' g H σ ρ st where
  gr := by rw [← h3, ← h4]; exact R.gr
  sub := R.sub
  sto := by rw [← h1, ← h2]; exact R.sto
  len := R.len
  sl := fun i s h => by
    have hs := R.sl i s h
    cases s with
    | un => trivial
    | val d => obtain ⟨v, e, r⟩ := hs; exact ⟨v, e, by rw [← h1, ← h2]; exact r⟩
    | own ds => obtain ⟨a, xs, e, z1, z2, z3, z4, z5⟩ := hs; exact ⟨a, xs, e, z1, by rw [← h1, ← h2]; exact z2, z3, z4, by rw [← h4]; exact z5⟩
    | exc n fs => exact (noExc_at hn h).elim
  sep := R.sep
theorem endCl_post {a : Addr} {cls : Value} {d : Option Addr} {sl : Nat} {r : RS} (h : RPost F g D (endCl sl r)) :
    RPost (F.inCl a cls d) g { nx := fun σ' H' => D.nx (σ'.set sl none) H', rt := D.rt, bk := fun σ' H' => D.bk (σ'.set sl none) H', ct := fun σ' H' => D.ct (σ'.set sl none) H' } r := by
  have key : ∀ {ρ : Ev} {st : Store} {g : Gh} {H : Hp} {σ : L2.St}, noExc (ρ.set sl .un) = true → SRel (F.inCl a cls d) g H σ ρ st → SRel F g H (σ.set sl none) (ρ.set sl .un) st := fun {ρ st g H σ} hn R => by
    have R' : SRel (F.inCl a cls d) g H (σ.set sl none) (ρ.set sl .un) st := by
      by_cases hi : sl < ρ.length
      · exact R.set hi trivial (fun _ z => by cases z)
      · exact R.out hi
    exact SRel.other (F := F.inCl a cls d) (F' := F) rfl rfl rfl rfl hn R'
  cases r with
  | ret r st => exact h
  | rz i fs ρ st => exact (h : False).elim
  | stuck => exact h
  | nx ρ st =>
    simp only [endCl] at h
    split at h
    · rename_i hn; exact fun g1 H1 σ1 l R => h g1 H1 _ l (key hn R)
    · exact h.elim
  | brk ρ st =>
    simp only [endCl] at h
    split at h
    · rename_i hn; exact fun g1 H1 σ1 l R => h g1 H1 _ l (key hn R)
    · exact h.elim
  | ct ρ st =>
    simp only [endCl] at h
    split at h
    · rename_i hn; exact fun g1 H1 σ1 l R => h g1 H1 _ l (key hn R)
    · exact h.elim
/-- clauses and what they match -/
def clTs (F : Fm) (cl : List (Value × (Nat → Bool) × SS)) : List (Value × (Addr → Value → Option Addr → TS)) := cl.map fun c => (c.1, fun a cls d => tS (F.inCl a cls d) c.2.2)
theorem tryCl_mono {sl i : Nat} {fs : List Dn.D} {cls : Value} {dx : Option Addr} (hK : X.K = F.K) : ∀ {cl : List (Value × (Nat → Bool) × SS)}, (∀ c ∈ cl, ∀ i C, F.pa.exA[i]? = some C → PySem.W.exmOne X.K (.ref C) c.1 = some (c.2.1 i)) →
    RPost F g D (tryCl sl i fs ρ st (cl.map (·.2))) → Le g g' → SRel F g' H σ ρ st → ExcR F g' cls dx i fs → wManyAs X.K F.W sl D (clTs F cl) cls dx σ H
  | [], _, q, l, R, ex => q g' H σ cls dx l R ex
  | (c, m, s) :: cl, hm, q, l, R, ex => by
    obtain ⟨C, d, vs, names, h1, h2, h3, h4, h5, h6, h7⟩ := id ex
    subst h2
    refine ⟨m i, hm _ (by simp) i C h1, fun hb a ha => ?_, fun hb => ?_⟩
    · simp only [List.map_cons, tryCl, hb, if_true] at q
      split at q
      rotate_left
      · exact q.elim
      rename_i hn
      simp only [Bool.and_eq_true, decide_eq_true_eq] at hn
      have R2 : SRel (F.inCl a (.ref C) dx) g' H σ ρ st := SRel.other (F := F) (F' := F.inCl a (.ref C) dx) rfl rfl rfl rfl hn.1 R
      have R3 : SRel (F.inCl a (.ref C) dx) g' H (σ.set sl (some (.ref a))) (ρ.set sl (.exc i fs)) st := R2.set hn.2 ⟨a, .ref C, dx, rfl, rfl, ex⟩ (fun _ z => by cases z)
      exact ⟨g', _, st, R3, RPost.le l (endCl_post q)⟩
    · simp only [List.map_cons, tryCl, hb, Bool.false_eq_true, if_false] at q
      exact tryCl_mono hK (fun c hc => hm c (by simp [hc])) q l R ex
theorem sTry_mono {sl : Nat} {cl : List (Value × (Nat → Bool) × SS)} {b : SS} (hK : X.K = F.K) (hm : ∀ c ∈ cl, ∀ i C, F.pa.exA[i]? = some C → PySem.W.exmOne X.K (.ref C) c.1 = some (c.2.1 i)) (q : tS F (sTry sl (cl.map (·.2)) b) D σ H) :
    tS { F with W := wManyAs X.K F.W sl D (clTs F cl) } b D σ H := by
  obtain ⟨g, ρ, st, R, q⟩ := q
  refine ⟨g, ρ, st, R.wish _, ?_⟩
  unfold sTry at q
  cases e : b ρ st with
  | nx ρ' st' => simp only [e] at q; exact fun g1 H1 σ1 l R1 => q g1 H1 σ1 l R1.unwish
  | ret r st' => simp only [e] at q; exact q
  | brk ρ' st' => simp only [e] at q; exact fun g1 H1 σ1 l R1 => q g1 H1 σ1 l R1.unwish
  | ct ρ' st' => simp only [e] at q; exact fun g1 H1 σ1 l R1 => q g1 H1 σ1 l R1.unwish
  | stuck => simp only [e] at q; exact q
  | rz i fs ρ' st' =>
    simp only [e] at q
    intro g1 H1 σ1 cls dx l R1 ex
    exact tryCl_mono hK hm q l R1.unwish ex
theorem ps_tryE {n : Str} {sl : Nat} {body : List Stmt} {h₀ : ExceptHandler} {hds : List ExceptHandler} {cl : List (Value × (Nat → Bool) × SS)} {b : SS} (hK : X.K = F.K) (hs : X.stack = X.env :: X.outer) (hf : X.env.frame = some X.env.locals) (hN : X.N.Nodup) (hi : X.N[sl]? = some n) (hln : X.env.kindOf n = some .local) (tk : Takes X F.W)
    (hm : ∀ c ∈ cl, ∀ i C, F.pa.exA[i]? = some C → PySem.W.exmOne X.K (.ref C) c.1 = some (c.2.1 i))
    (hb : ∀ (W : WX) (pn : List (Addr × Obj)) (xe : Value → Shared → Prop), Takes (X.tr pn xe) W → PassesOwn (model X.prog X.w) X.A X.env xe → PSs (X.tr pn xe) body (tS { F with W := W } b)) (hh : HdsAs X n (h₀ :: hds) (clTs F cl)) :
    PS X (.Try body (h₀ :: hds) [] [] pos) (tS F (sTry sl (cl.map (·.2)) b)) :=
  PS.mono (fun D σ H q => sTry_mono hK hm q) (ps_try_manyAs (tb := fun W => tS { F with W := W } b) hs hf hN hi hln tk hb hh)
/-! ### fault.f -/
def xfE (sl cj : Nat) (names : List Str) (n : Str) : Ev → M Dn.D := fun ρ => match ρ[sl]? with
  | some (.exc i fs) => if i = cj ∧ names.Nodup then (match (names.zip fs).lookup n with | some d => pure d | none => stuck) else stuck
  | _ => stuck
theorem lookup_mem' {α : Type} {n : Str} {v : α} : ∀ {l : List (Str × α)}, l.lookup n = some v → (n, v) ∈ l
  | [], h => by cases h
  | (m, w) :: l, h => by
    by_cases e : n = m
    · subst e; rw [List.lookup_cons_self] at h; cases h; simp
    · have hb : (n == m) = false := by simpa using e
      rw [List.lookup_cons, hb] at h
      exact List.mem_cons_of_mem _ (lookup_mem' h)
theorem mem_lookup' {α : Type} {n : Str} {v : α} : ∀ {l : List (Str × α)}, (l.map (·.1)).Nodup → (n, v) ∈ l → l.lookup n = some v
  | [], _, h => by cases h
  | (m, w) :: l, hn, h => by
    simp only [List.map_cons, List.nodup_cons] at hn
    rcases List.mem_cons.mp h with h | h
    · cases h; exact List.lookup_cons_self
    · have e : n ≠ m := fun e => hn.1 (by rw [← e]; exact List.mem_map_of_mem (f := (·.1)) h)
      have hb : (n == m) = false := by simpa using e
      rw [List.lookup_cons, hb]
      exact mem_lookup' hn.2 h
theorem zip_keys {α : Type} : ∀ {ns : List Str} {vs : List α}, vs.length = ns.length → (ns.zip vs).map (·.1) = ns
  | [], _, _ => rfl
  | n :: ns, [], h => by simp at h
  | n :: ns, v :: vs, h => by simp [zip_keys (ns := ns) (vs := vs) (by simpa using h)]
theorem zip_rep {K : PySem.W.Frag} {pa : PAd} {n : Str} {d : Dn.D} : ∀ {ns : List Str} {vs : List V} {fs : List Dn.D}, RepVs K pa g vs fs → (ns.zip fs).lookup n = some d → ∃ v, (n, v) ∈ ns.zip vs ∧ RepV K pa g v d
  | [], _, _, _, h => by simp at h
  | m :: ns, vs, [], _, h => by simp at h
  | m :: ns, vs, f :: fs, r, h => by
    obtain ⟨y, ys, rfl, r1, r2⟩ := r.inv_cons
    by_cases e : n = m
    · subst e
      rw [List.zip_cons_cons, List.lookup_cons_self] at h
      cases h
      exact ⟨y, by simp, r1⟩
    · have hb : (n == m) = false := by simpa using e
      rw [List.zip_cons_cons, List.lookup_cons, hb] at h
      obtain ⟨v, h1, h2⟩ := zip_rep (ns := ns) r2 h
      exact ⟨v, by simp [h1], h2⟩
theorem pe_xfE {a C : Addr} {oe : Obj} {cls : Value} {d : Option Addr} {pn : List (Addr × Obj)} {sl cj : Nat} {names : List Str} {n y : Str} {p1 : Pos} (T : XfC X.K C) (hno : PySem.W.findIn X.K (.ref C) n = some none) (hz : Zc cls d oe) (hf : ∃ vs, oe.data = .fields vs)
    (hC : F.pa.exA[cj]? = some C) (hF : F.exF[cj]? = some names) (hN : X.N[sl]? = some y) (hv : Vis X.env.scope y) (hd : (y == ("__debug__" : Str)) = false) (hcd : (y == ("__classdict__" : Str)) = false) :
    PE (X.suite a ((a, oe) :: pn)) (.Attribute (.Name y p1) n pos) (tE (F.inCl a cls d) (xfE sl cj names n)) := by
  refine PE.mono (fun σ H Q ⟨g, ρ, st, R, q⟩ => ?_) (pe_xf (C := C) (te := tVar sl) T hno hz hf (pe_var (X := X.suite a ((a, oe) :: pn)) hN hv hd hcd))
  unfold xfE at q
  cases e : ρ[sl]? with
  | none => simp only [e] at q; exact q.elim
  | some s =>
    cases s with
    | exc i fs =>
      simp only [e] at q
      split at q
      rotate_left
      · exact q.elim
      rename_i hi
      obtain ⟨rfl, hnd⟩ := hi
      obtain ⟨a1, cls1, dx1, h1, h2, ex⟩ := R.sl sl _ e
      cases h1
      obtain ⟨C1, dd, vs, nm, z1, z2, z3, z4, z5, z6, z7⟩ := ex
      have e1 : C1 = C := by
        have : F.pa.exA[i]? = some C1 := z1
        rw [hC] at this; cases this; rfl
      have e2 : nm = names := by
        have : F.exF[i]? = some nm := z5
        rw [hF] at this; cases this; rfl
      subst e1 e2
      cases hl : (nm.zip fs).lookup n with
      | none => simp only [hl] at q; exact q.elim
      | some dv =>
        simp only [hl] at q
        obtain ⟨v, m1, rv⟩ := zip_rep z7 hl
        refine ⟨.ref a, join_some h2, rfl, z2, dd, (nm.zip vs).reverse, v, z3, R.sub _ _ z4, ?_, (q.pure R.sub R.sto) v rv⟩
        refine mem_lookup' ?_ (List.mem_reverse.mpr m1)
        rw [List.map_reverse, zip_keys z6]
        exact List.pairwise_reverse.mpr (List.Pairwise.imp (fun h e => h e.symm) hnd)
    | un => simp only [e] at q; exact q.elim
    | val d => simp only [e] at q; exact q.elim
    | own ds => simp only [e] at q; exact q.elim
end
end Dn

set_option Elab.async false
set_option linter.all false
set_option maxRecDepth 100000
set_option maxHeartbeats 4000000
/-! Den, part M: facts of the written part, by Bools. -/
namespace Dn
open PySem PySem.Spec L2

def oexB (K : PySem.W.Frag) (C : Addr) : Bool := (match K.lookup C with
  | some ⟨.type t, dd, .cls ⟨nm, bs, mro, N, q, hd, sn, sub, ab, col, del⟩, sl⟩ => (match mro, sl.toList with
    | .ref C' :: bm, [_, _, _, _, some (.builtin n), _] => decide (t = "type") && (decide (C' = C) && (decide (n = "ValueError.__new__") && (!del && (hd && PySem.HandSPX.refsVE bm))))
    | _, _ => false)
  | _ => false) && (decide (PySem.W.findIn K (.ref C) "__setattr__" = some (some (.builtin "object.__setattr__"))) && (decide (PySem.W.subIn K (.ref C) (.type "BaseException") = some true) && (decide (PySem.W.typeIn K (.ref C) = some (.type "type")) && PySem.W.keepIn K (.ref C))))
theorem ba {a b : Bool} (h : (a && b) = true) : a = true ∧ b = true := Bool.and_eq_true_iff.mp h
theorem oexB_ok {K : PySem.W.Frag} {C : Addr} (h : oexB K C = true) : OexC K C := by
  obtain ⟨h1, h⟩ := ba h
  obtain ⟨h2, h⟩ := ba h
  obtain ⟨h3, h⟩ := ba h
  obtain ⟨h4, h5⟩ := ba h
  refine ⟨?_, of_decide_eq_true h2, of_decide_eq_true h3, of_decide_eq_true h4, h5⟩
  split at h1
  · rename_i t dd nm bs mro N q hd sn sub ab col del sl ho
    obtain ⟨l⟩ := sl
    split at h1
    · simp only [Bool.and_eq_true, decide_eq_true_eq, Bool.not_eq_true'] at h1
      rename_i hs
      simp only at hs
      subst hs
      obtain ⟨rfl, rfl, rfl, rfl, rfl, hr⟩ := h1
      exact ⟨_, _, _, _, _, _, _, _, _, _, _, _, _, _, _, ho, hr⟩
    · cases h1
  · cases h1
def baseB (K : PySem.W.Frag) (M : Addr) : Bool := decide (PySem.W.specialIn K (.ref M) "__getattribute__" = some (some (.builtin "type.__getattribute__"))) && (PySem.W.readsIn K M (.type "type") && (match PySem.W.findCls K (.ref M) (.type "type") "__init__" with
  | some (.val (.builtin n)) => decide (n = "ValueError.__init__")
  | _ => false))
theorem baseB_ok {K : PySem.W.Frag} {M : Addr} (h : baseB K M = true) : BaseC K M := by
  obtain ⟨h1, h⟩ := ba h
  obtain ⟨h2, h3⟩ := ba h
  refine ⟨of_decide_eq_true h1, h2, ?_⟩
  split at h3
  · rename_i e
    rw [e, of_decide_eq_true h3]
  · cases h3
/-- an error class: its fields (its own __init__ stands at fI) -/
def excB (K : PySem.W.Frag) (x : Str) (names : List Str) : Bool := oexB K (He.ga K x) && (xfB K (He.ga K x) && (decide (PySem.W.findIn K (.ref (He.ga K x)) "__init__" = some (some (.ref (He.ma K (He.ga K x) "__init__")))) && (decide (PySem.W.typeIn K (.ref (He.ma K (He.ga K x) "__init__")) = some (.type "function")) && names.all fun n => decide (PySem.W.findIn K (.ref (He.ga K x)) n = some none))))
structure ExcK (K : PySem.W.Frag) (x : Str) (names : List Str) : Prop where
  T : OexC K (He.ga K x)
  X : XfC K (He.ga K x)
  iC : PySem.W.findIn K (.ref (He.ga K x)) "__init__" = some (some (.ref (He.ma K (He.ga K x) "__init__")))
  tI : PySem.W.typeIn K (.ref (He.ma K (He.ga K x) "__init__")) = some (.type "function")
  no : ∀ n ∈ names, PySem.W.findIn K (.ref (He.ga K x)) n = some none
theorem excB_ok {K : PySem.W.Frag} {x : Str} {names : List Str} (h : excB K x names = true) : ExcK K x names := by
  obtain ⟨h1, h⟩ := ba h
  obtain ⟨h2, h⟩ := ba h
  obtain ⟨h3, h⟩ := ba h
  obtain ⟨h4, h5⟩ := ba h
  exact ⟨oexB_ok h1, xfB_ok h2, of_decide_eq_true h3, of_decide_eq_true h4, fun n hn => of_decide_eq_true (List.all_eq_true.mp h5 n hn)⟩
/-- which clause takes which class -/
def exmB (K : PySem.W.Frag) (xs : List Str) : Bool := (List.range xs.length).all fun i => (List.range xs.length).all fun j => decide (PySem.W.exmOne K (.ref (He.ga K (xs.getD i Str.empty))) (.ref (He.ga K (xs.getD j Str.empty))) = some (decide (i = j)))
theorem exmB_ok {K : PySem.W.Frag} {xs : List Str} (h : exmB K xs = true) {i j : Nat} (hi : i < xs.length) (hj : j < xs.length) : PySem.W.exmOne K (.ref (He.ga K (xs.getD i Str.empty))) (.ref (He.ga K (xs.getD j Str.empty))) = some (decide (i = j)) := by
  have h1 := List.all_eq_true.mp (List.all_eq_true.mp h i (List.mem_range.mpr hi)) j (List.mem_range.mpr hj)
  exact of_decide_eq_true h1
/-- every error's fields -/
def excsB (K : PySem.W.Frag) (es : List (Str × List Str)) : Bool := (es.all fun e => excB K e.1 e.2) && exmB K (es.map (·.1))
def gcdB (K : PySem.W.Frag) (x : Str) (id : String) : Bool := decide (PySem.W.nsIn K mainGlobals x = some (some (.builtin id)))
theorem gcdB_ok {K : PySem.W.Frag} {h : Heap} {mg : Str → Option Value} {x : Str} {id : String} (X : K.In h) (G : h.Ns mainGlobals mg) (e : gcdB K x id = true) : mg x = some (.builtin id) := PySem.W.mg_of X G (of_decide_eq_true e)
/-! the Hook: what the module's names reach, and the statics -/
def asY (g : Addr → Option Obj) (n : Nat) : List Addr := PySem.cStatics :: sysModules :: He.asD g n
def smB (K : PySem.W.Frag) : Bool := match K.lookup sysModules with
  | some ⟨_, _, .dict _ _, _⟩ => true
  | _ => false
theorem smB_ok {K : PySem.W.Frag} (h : smB K = true) : SmK K := by
  unfold smB at h
  split at h
  · rename_i e; exact ⟨_, e, fun _ _ z => by cases z⟩
  · cases h
def obsY (n : Nat) (fa : List He.Fa) (fn : List He.DefD) (tf : List He.Defn) (ex : PySem.W.Frag → Bool) (g : Addr → Option Obj) : He.AlD × Bool := (He.obsD fa fn (He.frT g (asY g n)), ex (He.frT g (asY g n)) && He.tabsB g tf (He.frT g (asY g n)))
structure SaysY (fa : List He.Fa) (fn : List He.DefD) (tf : List He.Defn) (ex : PySem.W.Frag → Bool) (h : Heap) (K : PySem.W.Frag) : Prop where
  t : He.SaysD fa fn K
  more : ex K = true
  hd : ∀ p ∈ tf, PySem.W.codeHdIn K (He.cT K p).1 (He.cT K p).2 = true
  out : ∀ p ∈ tf, K.lookup (He.cT K p).2 = none
  empty : ∀ p ∈ tf, h.get? (He.cT K p).2 = some { cls := .none, data := .fields #[] }
theorem saysY_of {n : Nat} {fa : List He.Fa} {fn : List He.DefD} {tf : List He.Defn} {ex : PySem.W.Frag → Bool} {h : Heap} (e : obsY n fa fn tf ex h.get? = (He.valD fn, true)) : SaysY fa fn tf ex h (He.frT h.get? (asY h.get? n)) := by
  have e1 : He.obsD fa fn (He.frT h.get? (asY h.get? n)) = He.valD fn := congrArg (fun z : He.AlD × Bool => z.1) e
  have e2 : (ex (He.frT h.get? (asY h.get? n)) && He.tabsB h.get? tf (He.frT h.get? (asY h.get? n))) = true := congrArg (fun z : He.AlD × Bool => z.2) e
  obtain ⟨h1, h2⟩ := ba e2
  have key : ∀ p ∈ tf, PySem.W.codeHdIn (He.frT h.get? (asY h.get? n)) (He.cT (He.frT h.get? (asY h.get? n)) p).1 (He.cT (He.frT h.get? (asY h.get? n)) p).2 = true ∧ ∃ o, h.get? (He.cT (He.frT h.get? (asY h.get? n)) p).2 = some o ∧ He.emptyTab o = true := fun p hp => by
    obtain ⟨h3, h4⟩ := ba (List.all_eq_true.mp h2 p hp)
    refine ⟨h3, ?_⟩
    cases q : h.get? (He.cT (He.frT h.get? (asY h.get? n)) p).2 with
    | none =>
      rw [q] at h4
      cases h4
    | some o =>
      rw [q] at h4
      exact ⟨o, rfl, h4⟩
  exact ⟨e1, h1, fun p hp => (key p hp).1, fun p hp => by
    obtain ⟨_, o, q, z⟩ := key p hp
    exact He.frT_none q z, fun p hp => by
    obtain ⟨_, o, q, z⟩ := key p hp
    rw [q, He.emptyTab_eq z]⟩
def hookY (n : Nat) (fa : List He.Fa) (fn : List He.DefD) (tf : List He.Defn) (ex : PySem.W.Frag → Bool) : PySem.W.Hook where
  α := He.AlD × Bool
  obs := fun s => obsY n fa fn tf ex s.heap.get?
  val := fun _ => (He.valD fn, true)
  says := fun _ h => ∃ K : PySem.W.Frag, K.In h ∧ SaysY fa fn tf ex h K
  of := fun _ _ e => ⟨_, He.frT_in, saysY_of e⟩
  keeps := fun _ _ _ ⟨K, hK, c⟩ k => ⟨K, PySem.W.Frag.In.keeps hK k, ⟨c.t, c.more, c.hd, c.out, fun p hp => k _ _ (c.empty p hp)⟩⟩
def meth (s : Stmt) (j : Nat) : Stmt := match s with
  | .ClassDef (body := b) .. => b.getD j (.Pass ⟨0, 0, 0, 0⟩)
  | _ => .Pass ⟨0, 0, 0, 0⟩
end Dn

set_option Elab.async false
set_option linter.all false
set_option maxRecDepth 100000
set_option maxHeartbeats 4000000
/-! Den, part N: lambdas without parameters: made. -/
namespace Dn
open PySem PySem.Spec PyProof.Rows L2 LamX

section
variable {X : Cx} {pins : List (Addr × Obj)} {σ : L2.St} {H : Hp} {s : Shared}
theorem lamO_ok {P : Program} {w : World} {H : Hp} {h : Heap} {f : Addr} {q : Str} {ps : Arguments} {b : Expr} {sc : Scope} {cl : List (Str × Addr)} {c' : Addr} {pm ctv : Value} (e : h.get? f = some (PySem.W.kla_obj "<lambda>" q ps b sc cl pm c' ctv)) : ObjOk P w H h f (LamO f q ps b sc cl c') :=
  ⟨⟨pm, ctv, e⟩, ⟨_, e⟩, fun h1 h2 ⟨pm, ctv, a⟩ k => ⟨pm, ctv, k _ a⟩⟩
/-- the lambda is made and tracked -/
theorem lam_make3 {c P : Addr} {ps : Array Value} {params : Arguments} {body : Expr} {scope : Scope} {pos : Pos} {E : Value → Shared → Prop} {Q : Value → Shared → Prop} (I : Inv X pins σ H s) (TB : TabB X.base X.mg c P) (hcode : X.env.code = .ref c)
    (hP : H P = some (.tbl ps)) (ht : TriplesOk ps.toList) (ha : ∀ (pos : Pos) (cv : Value), codeAmong pos ps.toList = some cv → ∃ c, cv = .ref c ∧ H c = some (CodeO c (X.env.qual ++ "<lambda>")))
    (hdef : defaultsOf params X.env = ([], [])) (hfree : ∀ y ∈ scope.names, y.2 = .free → ∃ c, X.env.cells.lookup y.1 = some c)
    (h : ∀ (f c' : Addr) (H1 : Hp) (s' : Shared), ((H c' = none ∧ H1 = upd (upd H P (.tbl (ps ++ #[rawInt pos.line, rawInt pos.col, .ref c']))) c' (CodeO c' (X.env.qual ++ "<lambda>")) ∧ codeAmong pos ps.toList = none) ∨ (codeAmong pos ps.toList = some (.ref c') ∧ H1 = H)) → H1 f = none →
      Inv X pins σ (upd H1 f (LamO f (X.env.qual ++ "<lambda>") params body scope (cloFrom X.env.cells scope.names []) c')) s' → Q (.ref f) s') :
    wpAny (model X.prog X.w) X.A (eval (.Lambda params body scope pos) X.env) Q E s := by
  refine PySem.W.kla_eval hdef ?_
  have bP : s.heap.BuiltinsAt X.mg P := TB.bm.keeps I.bk
  have hP' : s.heap.get? P = some { cls := .none, data := .fields ps } := I.hok P _ hP
  cases hc : codeAmong pos ps.toList with
  | none =>
    refine PySem.W.kla_makeFunction (mg := X.mg) (c := c) (P := P) (ps := ps) (closure_ok hfree) I.ok.glob (I.mod.glob.keeps I.bk) hcode (TB.code.keeps I.bk) hP' ht hc TB.gP bP fun c' ctv h' tk hx hge hlt hrec htb => ?_
    obtain ⟨c2, oc, vs, t, e2, hoc, hd, hv⟩ := hrec
    cases e2
    have nC : H c' = none := I.hok.fresh hge
    have I1 := inv_table (t' := tk) (more := #[rawInt pos.line, rawInt pos.col, .ref c']) (h' := h') I hP (fun b o hb e => hx b o hb e) htb hge ⟨oc, vs, t, hoc, hd, hv⟩
    have I2 := I1.laid (t' := tk) (a := h'.objs.size) (o := LamO h'.objs.size (X.env.qual ++ "<lambda>") params body scope (cloFrom X.env.cells scope.names []) c')
      (h' := h'.push (PySem.W.kla_obj "<lambda>" (X.env.qual ++ "<lambda>") params body scope (cloFrom X.env.cells scope.names []) ((X.mg "__name__").getD .none) c' ctv)) (fun b o e => Heap.get?_push_of_some _ e) (Nat.le_refl _) (lamO_ok (Heap.get?_push_size _ rfl))
    exact h h'.objs.size c' _ _ (.inl ⟨nC, rfl, hc⟩) (I1.hok.fresh (Nat.le_refl _)) I2
  | some cv =>
    obtain ⟨c', e, hco⟩ := ha pos cv hc
    subst e
    refine PySem.W.kla_makeFunctionHit (mg := X.mg) (c := c) (P := P) (ps := ps) (closure_ok hfree) I.ok.glob (I.mod.glob.keeps I.bk) hcode (TB.code.keeps I.bk) hP' ht hc bP fun ctv h' tk hx hsz => ?_
    have I2 := I.laid (t' := tk) (a := h'.objs.size) (o := LamO h'.objs.size (X.env.qual ++ "<lambda>") params body scope (cloFrom X.env.cells scope.names []) c')
      (h' := h'.push (PySem.W.kla_obj "<lambda>" (X.env.qual ++ "<lambda>") params body scope (cloFrom X.env.cells scope.names []) ((X.mg "__name__").getD .none) c' ctv)) (fun b o e => Heap.get?_push_of_some _ (hx b o e)) hsz (lamO_ok (Heap.get?_push_size _ rfl))
    exact h h'.objs.size c' H _ (.inr ⟨hc, rfl⟩) (I.hok.fresh hsz) I2
end
section
variable {F : Fm} {X : Cx}
/-- the frame of a def that makes lambdas -/
structure Mkr (F : Fm) (X : Cx) (c P : Addr) : Prop where
  TB : TabB X.base X.mg c P
  code : X.env.code = .ref c
  tb : (P, X.env.qual ++ "<lambda>") ∈ F.pa.tb
  un : ∀ p ∈ F.pa.tb, p.1 = P → p.2 = X.env.qual ++ "<lambda>"
  cc : F.pa.cc = X.env.cells
theorem pe_lam {c P : Addr} {i : Nat} {params : Arguments} {body : Expr} {scope : Scope} {pos : Pos} (K : Mkr F X c P) (hi : F.pa.lams[i]? = some (X.env.qual ++ "<lambda>", params, body, scope)) (L : LamS X.env.scope scope) (hdef : defaultsOf params X.env = ([], [])) :
    PE X (.Lambda params body scope pos) (tE F (kk (.clo i))) := by
  refine ⟨fun pins s σ H Q I hq => ?_⟩
  obtain ⟨g, ρ, st, R, q⟩ := hq
  obtain ⟨hz, ps, hP, ht, ha⟩ := R.sto.tabs _ K.tb
  refine lam_make3 I K.TB K.code hP ht (fun pos cv hc => ?_) hdef (L.has I.ok) fun f c' H1 s' hm hf I' => ?_
  · obtain ⟨c0, e1, e2⟩ := ha pos cv hc
    exact ⟨c0, e1, R.sub _ _ e2⟩
  · refine ⟨.ref f, _, I', rfl, ?_⟩
    have q : Post F g H σ ((pure (.clo i) : M D) st) _ := q
    -- the state ahead of the function object
    have step : ∃ g1, Grow g H g1 H1 ∧ Sub g1 H1 ∧ StoR F.K F.pa g1 H1 st ∧ g1.Fz c' = some (CodeO c' (X.env.qual ++ "<lambda>")) := by
      rcases hm with ⟨nC, rfl, hno⟩ | ⟨hc, rfl⟩
      · have hPc : P ≠ c' := ne_of_none hP nC
        have le := le_put (o := CodeO c' (X.env.qual ++ "<lambda>")) (R.sub.none nC)
        have sm : ∀ a, a ≠ P → a ≠ c' → upd (upd H P (.tbl (ps ++ #[rawInt pos.line, rawInt pos.col, .ref c']))) c' (CodeO c' (X.env.qual ++ "<lambda>")) a = H a := fun a h1 h2 => by rw [upd_ne h2, upd_ne h1]
        have gz : ∀ a, a ≠ c' → (g.put c' (CodeO c' (X.env.qual ++ "<lambda>"))).Fz a = g.Fz a := fun a h => upd_ne h
        have asP : ∀ a ∈ g.as, a ≠ P ∧ a ≠ c' := fun a ha => by
          obtain ⟨k, hk, e⟩ := List.mem_iff_getElem.mp ha
          have hk2 : k < st.length := by rw [← R.sto.len]; exact hk
          obtain ⟨ps', z, _⟩ := R.sto.at_ k a st[k] (by rw [← e]; simp [hk]) (by simp [hk2])
          exact ⟨fun e => (by rw [e, hP] at z; cases z), fun e => (by rw [e, nC] at z; cases z)⟩
        refine ⟨g.put c' (CodeO c' (X.env.qual ++ "<lambda>")), ⟨le, fun a u h => ?_, fun a h => .inl h, fun a u h n t => ?_, fun a u h => ?_⟩, fun a u h => ?_, ⟨R.sto.len, R.sto.nd, fun a ha => ?_, fun k a kvs h1 h2 => ?_, fun y d hy => ?_, fun p hp => ?_, R.sto.cci⟩, upd_same⟩
        · by_cases e : a = c'
          · subst e; exact .inr nC
          · rw [gz a e] at h; exact .inl h
        · rw [sm a (fun e => by rw [e, hP] at h; cases h; exact t _ rfl) (ne_of_none h nC)]; exact h
        · by_cases e1 : a = c'
          · subst e1; exact ⟨_, upd_same⟩
          · by_cases e2 : a = P
            · subst e2; exact ⟨_, by rw [upd_ne e1, upd_same]⟩
            · exact ⟨u, by rw [sm a e2 e1]; exact h⟩
        · by_cases e1 : a = c'
          · subst e1
            rw [show (g.put a (CodeO a (X.env.qual ++ "<lambda>"))).Fz a = some _ from upd_same] at h
            cases h; exact upd_same
          · rw [gz a e1] at h
            have e2 : a ≠ P := fun e => by rw [e, hz] at h; cases h
            rw [sm a e2 e1]; exact R.sub a u h
        · rw [gz a (asP a ha).2]; exact R.sto.nz a ha
        · obtain ⟨ps', z, cr⟩ := R.sto.at_ k a kvs h1 h2
          have := asP a (List.mem_of_getElem? h1)
          exact ⟨ps', by rw [sm a this.1 this.2]; exact z, cr.le le⟩
        · obtain ⟨cc, v, ob, h1, h2, h3⟩ := R.sto.amb y d hy
          exact ⟨cc, v, ob, h1, le.fz _ _ h2, h3.le le⟩
        · obtain ⟨hz', ps', z1, z2, z3⟩ := R.sto.tabs p hp
          have pc : p.1 ≠ c' := ne_of_none z1 nC
          by_cases e2 : p.1 = P
          · have en := K.un p hp e2
            rw [e2] at z1
            rw [hP] at z1
            cases z1
            refine ⟨by rw [gz _ pc]; exact hz', _, by rw [e2, upd_ne hPc, upd_same], by
              rw [show (ps ++ #[rawInt pos.line, rawInt pos.col, .ref c']).toList = ps.toList ++ [rawInt pos.line, rawInt pos.col, .ref c'] by simp]
              exact PySem.TriplesOk_snoc _ _ _ _ ht, fun p' cv hcv => ?_⟩
            rw [show (ps ++ #[rawInt pos.line, rawInt pos.col, .ref c']).toList = ps.toList ++ [rawInt pos.line, rawInt pos.col, .ref c'] by simp] at hcv
            rcases among_app _ ht hcv with z | z
            · obtain ⟨c0, e1, e2⟩ := z3 p' cv z
              exact ⟨c0, e1, le.fz _ _ e2⟩
            · exact ⟨c', z, by rw [en]; exact upd_same⟩
          · refine ⟨by rw [gz _ pc]; exact hz', ps', by rw [sm _ e2 pc]; exact z1, z2, fun p' cv hcv => ?_⟩
            obtain ⟨c0, e1, e2⟩ := z3 p' cv hcv
            exact ⟨c0, e1, le.fz _ _ e2⟩
      · obtain ⟨c0, e1, e2⟩ := ha _ _ hc
        cases e1
        exact ⟨g, Grow.refl _ _, R.sub, R.sto, e2⟩
    obtain ⟨g1, gr1, sb1, so1, hco⟩ := step
    refine q _ _ (gr1.trans (grow_put (o := LamO f (X.env.qual ++ "<lambda>") params body scope (cloFrom X.env.cells scope.names []) c') sb1 hf)) (sub_put sb1) (sto_put so1 sb1 hf) _ (.clo (c' := c') hi ?_ ?_)
    · rw [K.cc]; exact upd_same
    · exact (le_put (sb1.none hf)).fz _ _ hco
end
end Dn

set_option Elab.async false
set_option linter.all false
set_option maxRecDepth 100000
set_option maxHeartbeats 4000000
/-! Den, part O: cells that are tracked for a while. -/
namespace Dn
open PySem PySem.Spec PyProof.Rows L2 LamX

def onH (T H : Hp) : Hp := fun a => match T a with
  | some o => some o
  | none => H a
def offH (T H : Hp) : Hp := fun a => match T a with
  | some _ => none
  | none => H a
section
variable {T H H1 : Hp} {a : Addr} {o : HO}
theorem on_some (h : T a = some o) : onH T H a = some o := by unfold onH; rw [h]
theorem on_none (h : T a = none) : onH T H a = H a := by unfold onH; rw [h]
theorem off_some (h : T a = some o) : offH T H a = none := by unfold offH; rw [h]
theorem off_none (h : T a = none) : offH T H a = H a := by unfold offH; rw [h]
theorem off_at (h : offH T H a = some o) : T a = none ∧ H a = some o := by
  unfold offH at h
  cases e : T a with
  | none => rw [e] at h; exact ⟨rfl, h⟩
  | some u => rw [e] at h; cases h
/-- T tracks cells of the heap h that H does not -/
def TOk (T H : Hp) (h : Heap) (fs : List Addr) : Prop := ∀ a o, T a = some o → H a = none ∧ a ∉ fs ∧ ∃ ob v u, o = .frz ob (CellV a v) ∧ RelV v u ∧ ob.data = .cell (some u) ∧ h.get? a = some ob
variable {P : Program} {w : World} {h h' B : Heap} {fs : List Addr}
theorem TOk.none (t : TOk T H h fs) {u : HO} (e : H a = some u) : T a = none := by
  cases q : T a with
  | none => rfl
  | some o => rw [(t a o q).1] at e; cases e
theorem cellO_ok {ob : Obj} {v : V} {u : Value} (r : RelV v u) (hd : ob.data = .cell (some u)) (e : h.get? a = some ob) : ObjOk P w H h a (.frz ob (CellV a v)) :=
  ⟨e, ⟨u, r, ob, e, hd⟩, ⟨ob, e⟩, fun h1 h2 ⟨u, r, o, e1, e2⟩ k => ⟨u, r, o, k _ e1, e2⟩⟩
theorem frz_ne {ob : Obj} {v : V} : (∀ x, HO.frz ob (CellV a v) ≠ .own x) ∧ (∀ xs, HO.frz ob (CellV a v) ≠ .tup xs) ∧ (∀ xs, HO.frz ob (CellV a v) ≠ .lst xs) ∧ (∀ ps, HO.frz ob (CellV a v) ≠ .tbl ps) ∧ (∀ φ, HO.frz ob (CellV a v) ≠ .ext φ) ∧ (∀ ps, HO.frz ob (CellV a v) ≠ .dK ps) ∧ (∀ ps, HO.frz ob (CellV a v) ≠ .xd ps) :=
  ⟨fun _ z => (by cases z), fun _ z => (by cases z), fun _ z => (by cases z), fun _ z => (by cases z), fun _ z => (by cases z), fun _ z => (by cases z), fun _ z => (by cases z)⟩
theorem hok_on {H0 : Hp} (x : HOk P w H h) (t : TOk T H0 h' fs) (k : ∀ a o, T a = some o → ∀ ob, h'.get? a = some ob → h.get? a = some ob) (hn : ∀ a o, T a = some o → H a = none) : HOk P w (onH T H) h := fun b u e => by
  cases q : T b with
  | some o =>
    rw [on_some q] at e; cases e
    obtain ⟨_, _, ob, v, u', rfl, r, hd, hg⟩ := t b _ q
    exact cellO_ok r hd (k b _ q _ hg)
  | none =>
    rw [on_none q] at e
    have sm : ∀ d u, H d = some u → onH T H d = some u := fun d u hd => by
      rw [on_none]
      · exact hd
      · cases z : T d with
        | none => rfl
        | some o => rw [hn d o z] at hd; cases hd
    exact (x b u e).stay (fun d u _ q => q) (fun d hd => sm d _ hd) fun d xs hd => sm d _ hd
theorem hok_off (x : HOk P w H1 h) (hT : ∀ a o, T a = some o → H1 a = none ∨ ∃ ob v, H1 a = some (.frz ob (CellV a v))) : HOk P w (offH T H1) h := fun b u e => by
  obtain ⟨_, e⟩ := off_at e
  have sm : ∀ d u, H1 d = some u → (∀ ob v, u ≠ .frz ob (CellV d v)) → offH T H1 d = some u := fun d u hd n => by
    rw [off_none]
    · exact hd
    · cases z : T d with
      | none => rfl
      | some o =>
        rcases hT d o z with h0 | ⟨ob, v, h0⟩
        · rw [h0] at hd; cases hd
        · rw [h0] at hd; cases hd; exact (n _ _ rfl).elim
  exact (x b u e).stay (fun d u _ q => q) (fun d hd => sm d _ hd fun _ _ z => by cases z) fun d xs hd => sm d _ hd fun _ _ z => by cases z
/-- behind a call at H with the cells tracked -/
theorem un_off (t : TOk T H h fs) (u : Un fs [] (onH T H) H1 h h') (x : HOk P w H1 h') : Un fs [] H (offH T H1) h h' ∧ HOk P w (offH T H1) h' := by
  have kT : ∀ {a o}, T a = some o → H1 a = some o := fun {a o} q => by
    obtain ⟨_, _, ob, v, u', rfl, _⟩ := t a o q
    exact u.frzs a _ _ (on_some q)
  refine ⟨⟨fun b ob q n nf nx => ?_, fun b ob q n nf nx => ?_, fun b ob q n nx => ?_, fun b ob q nx => u.there b ob q nx, fun b xs e => ?_, fun b ob v e => ?_, fun b ps e => ?_⟩, hok_off x fun a o q => .inr ?_⟩
  · cases z : T b with
    | none => exact u.keep b ob q (by rw [on_none z]; exact n) nf nx
    | some o =>
      have e := kT z
      obtain ⟨_, _, ob', v, u', rfl, _, _, hg⟩ := t b o z
      rw [q] at hg; cases hg
      exact (x b _ e).1
  · cases z : T b with
    | none => exact u.slot b ob q (by rw [on_none z]; exact n) nf nx
    | some o => exact ((t b o z).2.1 nf).elim
  · cases z : T b with
    | none => rw [off_none z]; exact u.free b ob q (by rw [on_none z]; exact n) nx
    | some o => exact off_some z
  · have z := t.none e
    rw [off_none z]; exact u.tups b xs (by rw [on_none z]; exact e)
  · have z := t.none e
    rw [off_none z]; exact u.frzs b ob v (by rw [on_none z]; exact e)
  · have z := t.none e
    rw [off_none z]; exact u.tbls b ps (by rw [on_none z]; exact e)
  · obtain ⟨_, _, ob, v, u', rfl, _⟩ := t a o q
    exact ⟨ob, v, kT q⟩
/-- behind a call at H, told with the cells -/
theorem un_on (t : TOk T H h fs) (u : Un fs [] H H1 h h') (x : HOk P w H1 h') : Un fs [] (onH T H) (onH T H1) h h' ∧ HOk P w (onH T H1) h' := by
  have kT : ∀ {a o}, T a = some o → H1 a = none ∧ ∀ ob, h.get? a = some ob → h'.get? a = some ob := fun {a o} q => by
    obtain ⟨h0, nf, ob, v, u', rfl, _, _, hg⟩ := t a o q
    exact ⟨u.free a ob hg h0 (by simp), fun ob' e => u.keep a ob' e h0 nf (by simp)⟩
  have sm : ∀ {b : Addr} {v : HO}, onH T H b = some v → (∀ ob w, v ≠ .frz ob (CellV b w)) → T b = none ∧ H b = some v := fun {b v} e n => by
    cases z : T b with
    | none => rw [on_none z] at e; exact ⟨rfl, e⟩
    | some o =>
      rw [on_some z] at e; cases e
      obtain ⟨_, _, ob, v, u', rfl, _⟩ := t b _ z
      exact (n _ _ rfl).elim
  refine ⟨⟨fun b ob q n nf nx => ?_, fun b ob q n nf nx => ?_, fun b ob q n nx => ?_, fun b ob q nx => u.there b ob q nx, fun b xs e => ?_, fun b ob v e => ?_, fun b ps e => ?_⟩, hok_on x t (fun a o q ob e => (kT q).2 ob e) fun a o q => (kT q).1⟩
  · cases z : T b with
    | none => exact u.keep b ob q (by rw [on_none z] at n; exact n) nf nx
    | some o => rw [on_some z] at n; cases n
  · cases z : T b with
    | none => exact u.slot b ob q (by rw [on_none z] at n; exact n) nf nx
    | some o => rw [on_some z] at n; cases n
  · cases z : T b with
    | none => rw [on_none z]; exact u.free b ob q (by rw [on_none z] at n; exact n) nx
    | some o => rw [on_some z] at n; cases n
  · obtain ⟨z, e⟩ := sm e fun _ _ z => by cases z
    rw [on_none z]; exact u.tups b xs e
  · cases z : T b with
    | none => rw [on_none z] at e; rw [on_none z]; exact u.frzs b ob v e
    | some o => rw [on_some z] at e; rw [on_some z]; exact e
  · obtain ⟨z, e⟩ := sm e fun _ _ z => by cases z
    rw [on_none z]; exact u.tbls b ps e
theorem ub_on (t : TOk T H h fs) (u : UB fs H H1 h B h') (x : HOk P w H1 B) : UB fs (onH T H) (onH T H1) h B h' ∧ HOk P w (onH T H1) B ∧ ∀ a o, T a = some o → ∃ ob, B.get? a = some ob := by
  have kT : ∀ {a o}, T a = some o → H1 a = none ∧ ∀ ob, h.get? a = some ob → B.get? a = some ob := fun {a o} q => by
    obtain ⟨h0, nf, ob, v, u', rfl, _, _, hg⟩ := t a o q
    exact ⟨u.free a ob hg h0, fun ob' e => u.keep a ob' e h0 nf⟩
  have sm : ∀ {b : Addr} {v : HO}, onH T H b = some v → (∀ ob w, v ≠ .frz ob (CellV b w)) → T b = none ∧ H b = some v := fun {b v} e n => by
    cases z : T b with
    | none => rw [on_none z] at e; exact ⟨rfl, e⟩
    | some o =>
      rw [on_some z] at e; cases e
      obtain ⟨_, _, ob, v, u', rfl, _⟩ := t b _ z
      exact (n _ _ rfl).elim
  refine ⟨⟨fun b ob q n nf => ?_, u.slot, fun b ob q n => ?_, u.there, fun b xs e => ?_, fun b ob v e => ?_, fun b ps e => ?_⟩, hok_on x t (fun a o q ob e => (kT q).2 ob e) (fun a o q => (kT q).1), fun a o q => ?_⟩
  · cases z : T b with
    | none => exact u.keep b ob q (by rw [on_none z] at n; exact n) nf
    | some o => rw [on_some z] at n; cases n
  · cases z : T b with
    | none => rw [on_none z]; exact u.free b ob q (by rw [on_none z] at n; exact n)
    | some o => rw [on_some z] at n; cases n
  · obtain ⟨z, e⟩ := sm e fun _ _ z => by cases z
    rw [on_none z]; exact u.tups b xs e
  · cases z : T b with
    | none => rw [on_none z] at e; rw [on_none z]; exact u.frzs b ob v e
    | some o => rw [on_some z] at e; rw [on_some z]; exact e
  · obtain ⟨z, e⟩ := sm e fun _ _ z => by cases z
    rw [on_none z]; exact u.tbls b ps e
  · obtain ⟨_, _, ob, v, u', rfl, _, _, hg⟩ := t a o q
    exact ⟨ob, (kT q).2 ob hg⟩
end
/-! ### data -/
def onG (T : Hp) (g : Gh) : Gh := ⟨onH T g.Fz, g.as, g.vc⟩
def offG (T : Hp) (g : Gh) : Gh := ⟨offH T g.Fz, g.as, g.vc⟩
def CellT (T : Hp) : Prop := ∀ a o, T a = some o → ∃ ob v, o = .frz ob (CellV a v)
section
variable {K : PySem.W.Frag} {pa : PAd} {T H H1 : Hp} {g g1 : Gh} {m : List (Str × D)}
theorem RepV.chg {pa' : PAd} (h0 : pa.exA = pa'.exA) (h1 : pa.fnA = pa'.fnA) (h2 : pa.lams = pa'.lams) (h3 : pa.cc = pa'.cc) {v : V} {d : D} (r : RepV K pa g v d) : RepV K pa' g v d := by
  induction r with
  | non => exact .non
  | bl b => exact .bl b
  | int i => exact .int i
  | str x => exact .str x
  | tup h1 h2 _ ih => exact .tup h1 h2 ih
  | lst h1 h2 _ ih => exact .lst h1 h2 ih
  | scr h1 h2 _ ih => exact .scr h1 h2 ih
  | cel h => exact .cel h
  | dic0 h => exact .dic0 h
  | fn h => exact .fn (by rw [← h1]; exact h)
  | ty n => exact .ty n
  | exo a b c d _ ih => exact .exo (by rw [← h0]; exact a) b c d ih
  | obj a b c d _ ih => exact .obj (by rw [← h1]; exact a) b c d ih
  | clo a b c => exact .clo (by rw [← h2]; exact a) (by rw [← h3]; exact b) c
theorem RepVs.chg {pa' : PAd} (h0 : pa.exA = pa'.exA) (h1 : pa.fnA = pa'.fnA) (h2 : pa.lams = pa'.lams) (h3 : pa.cc = pa'.cc) {vs : List V} {ds : List D} (r : RepVs K pa g vs ds) : RepVs K pa' g vs ds := ⟨r.1, fun i x d e1 e2 => (r.2 i x d e1 e2).chg h0 h1 h2 h3⟩
theorem fz_off (c : CellT T) (hT : ∀ a o, T a = some o → g.Fz a = some o) {a : Addr} {u : HO} (h : g.Fz a = some u) (n : ∀ ob v, u ≠ .frz ob (CellV a v)) : (offG T g).Fz a = some u := by
  show offH T g.Fz a = some u
  rw [off_none]
  · exact h
  · cases z : T a with
    | none => rfl
    | some o =>
      obtain ⟨ob, v, rfl⟩ := c a o z
      rw [hT a _ z] at h; cases h
      exact (n _ _ rfl).elim
theorem frz_inj {ob ob' : Obj} {u : HO} {a : Addr} {v : V} (h : HO.frz ob u = HO.frz ob' (CellV a v)) : u = CellV a v := by cases h; rfl
theorem RepV.off (c : CellT T) (hT : ∀ a o, T a = some o → g.Fz a = some o) {v : V} {d : D} (r : RepV K pa g v d) : RepV K pa (offG T g) v d := by
  have rd : ∀ {a : Addr} {u : HO}, Rd g.Fz a u → (∀ v, u ≠ CellV a v) → (∀ ob w, u ≠ .frz ob w) → Rd (offG T g).Fz a u := fun {a u} h n n2 => by
    rcases h with h | ⟨o, h⟩
    · exact .inl (fz_off c hT h fun ob v z => n2 _ _ z)
    · exact .inr ⟨o, fz_off c hT h fun ob v z => n _ (frz_inj z)⟩
  have l1 : ∀ {a : Addr} {xs : List V}, SqT K g.Fz a xs → SqT K (offG T g).Fz a xs := fun {a xs} h => by
    rcases h with h | h
    · exact .inl (rd h (fun v z => by unfold CellV at z; cases z) fun _ _ z => by cases z)
    · exact .inr h
  have l2 : ∀ {a : Addr} {xs : List V}, SqL K g.Fz a xs → SqL K (offG T g).Fz a xs := fun {a xs} h => by
    rcases h with h | h
    · exact .inl (rd h (fun v z => by unfold CellV at z; cases z) fun _ _ z => by cases z)
    · exact .inr h
  induction r with
  | non => exact .non
  | bl b => exact .bl b
  | int i => exact .int i
  | str x => exact .str x
  | tup h1 h2 _ ih => exact .tup (l1 h1) h2 ih
  | lst h1 h2 _ ih => exact .lst (fz_off c hT h1 fun _ _ z => by cases z) h2 ih
  | scr h1 h2 _ ih => exact .scr (l2 h1) h2 ih
  | cel h => exact .cel h
  | dic0 h => exact .dic0 (fz_off c hT h fun _ _ z => by cases z)
  | fn h => exact .fn h
  | ty n => exact .ty n
  | exo h1 h2 h4 h5 _ ih => exact .exo h1 (by
      rcases h2 with ⟨dx, h2, h3⟩ | ⟨h2, h3⟩
      · exact .inl ⟨dx, fz_off c hT h2 fun _ _ z => exo_frz z, fz_off c hT h3 fun _ _ z => by unfold exd at z; cases z⟩
      · exact .inr ⟨h2, fz_off c hT h3 fun _ _ z => exo_frz z⟩) h4 h5 ih
  | obj h1 h2 h4 h5 _ ih => exact .obj h1 (fz_off c hT h2 fun _ _ z => by cases z) h4 h5 ih
  | clo h1 h2 h3 => exact .clo h1 (fz_off c hT h2 fun _ _ z => by unfold LamO at z; cases z) (fz_off c hT h3 fun _ _ z => by unfold CodeO at z; cases z)
theorem RepVs.off (c : CellT T) (hT : ∀ a o, T a = some o → g.Fz a = some o) {vs : List V} {ds : List D} (r : RepVs K pa g vs ds) : RepVs K pa (offG T g) vs ds := ⟨r.1, fun i x d e1 e2 => (r.2 i x d e1 e2).off c hT⟩
theorem le_on (h : ∀ a o, T a = some o → g.Fz a = none) : Le g (onG T g) where
  fz := fun a o e => by
    show onH T g.Fz a = some o
    rw [on_none]
    · exact e
    · cases z : T a with
      | none => rfl
      | some u => rw [h a u z] at e; cases e
  as := List.prefix_refl _
  vc := fun _ _ h => h
end
end Dn

set_option Elab.async false
set_option linter.all false
set_option maxRecDepth 100000
set_option maxHeartbeats 4000000
/-! Den, part P: calls from a def that made lambdas. -/
namespace Dn
open PySem PySem.Spec PyProof.Rows L2 LamX
theorem cells_pick (Good : Addr → HO → Prop) : ∃ T : Hp, (∀ a o, T a = some o → Good a o) ∧ ∀ a o, Good a o → ∃ o', T a = some o' ∧ Good a o' := by
  classical
  refine ⟨fun a => if h : ∃ o, Good a o then some h.choose else none, fun a o e => ?_, fun a o g => ⟨(⟨o, g⟩ : ∃ o, Good a o).choose, dif_pos ⟨o, g⟩, (⟨o, g⟩ : ∃ o, Good a o).choose_spec⟩⟩
  by_cases h : ∃ o, Good a o
  · simp only [h, dite_true] at e
    cases e
    exact h.choose_spec
  · simp only [h, dite_false] at e
    cases e
/-- what stands in the captured names -/
def ambOf (L : List (Str × Nat)) (ρ : Ev) : List (Str × D) := L.filterMap fun p => match (ρ[p.2]? : Option Slot) with
  | some (.val d) => some (p.1, d)
  | _ => none
theorem ambOf_some {ρ : Ev} {y : Str} {d : D} {L : List (Str × Nat)} (h : (ambOf L ρ).lookup y = some d) : ∃ i, (y, i) ∈ L ∧ ρ[i]? = some (.val d) := by
  obtain ⟨p, h1, h2⟩ := List.mem_filterMap.mp (lookup_mem' h)
  cases e : ρ[p.2]? with
  | none => simp only [e] at h2; cases h2
  | some s =>
    cases s with
    | val d' => simp only [e] at h2; cases h2; exact ⟨p.2, h1, e⟩
    | _ => simp only [e] at h2; cases h2
def callA (L : List (Str × Nat)) (n : Nat) (h : List (Str × D) → List D → M RV) (fs : Ev → M (List D)) : Ev → M RV := fun ρ => do let ds ← fs ρ; if ds.length = n then noRz (h (ambOf L ρ) ds) else stuck
abbrev PAd.am (pa : PAd) (m : List (Str × D)) : PAd := { pa with amb := m }
theorem RepV.am {K : PySem.W.Frag} {pa : PAd} {g : Gh} {v : V} {d : D} (m : List (Str × D)) (r : RepV K pa g v d) : RepV K (pa.am m) g v d := RepV.chg (pa := pa) (pa' := pa.am m) rfl rfl rfl rfl r
theorem RepV.unam {K : PySem.W.Frag} {pa : PAd} {g : Gh} {v : V} {d : D} {m : List (Str × D)} (r : RepV K (pa.am m) g v d) : RepV K pa g v d := RepV.chg (pa := pa.am m) (pa' := pa) rfl rfl rfl rfl r
theorem RepVs.am {K : PySem.W.Frag} {pa : PAd} {g : Gh} {v : List V} {d : List D} (m : List (Str × D)) (r : RepVs K pa g v d) : RepVs K (pa.am m) g v d := RepVs.chg (pa := pa) (pa' := pa.am m) rfl rfl rfl rfl r
theorem RepVs.unam {K : PySem.W.Frag} {pa : PAd} {g : Gh} {v : List V} {d : List D} {m : List (Str × D)} (r : RepVs K (pa.am m) g v d) : RepVs K pa g v d := RepVs.chg (pa := pa.am m) (pa' := pa) rfl rfl rfl rfl r
/-- the state handed over, the state taken back -/
theorem off_post {K : PySem.W.Frag} {pa : PAd} {m : List (Str × D)} {T H : Hp} {g : Gh} {st : Store} (hT : ∀ a o, T a = some o → H a = none) (cT : CellT T) (sb : Sub g H) (so : StoR K pa g H st) (hamb : pa.amb = [])
    (hm : ∀ y d, m.lookup y = some d → ∃ c v ob, pa.cc.lookup y = some c ∧ T c = some (.frz ob (CellV c v)) ∧ RepV K pa g v d) :
    Le g (onG T g) ∧ Sub (onG T g) (onH T H) ∧ StoR K (pa.am m) (onG T g) (onH T H) st ∧
    ∀ g' H' st', Grow (onG T g) (onH T H) g' H' → Sub g' H' → StoR K (pa.am m) g' H' st' → Grow g H (offG T g') (offH T H') ∧ Sub (offG T g') (offH T H') ∧ StoR K pa (offG T g') (offH T H') st' ∧ (∀ v r, RVR K (pa.am m) (onH T H) g' H' v r → RVR K pa H (offG T g') (offH T H') v r) := by
  have hz : ∀ a o, T a = some o → g.Fz a = none := fun a o e => sb.none (hT a o e)
  have nT : ∀ {a : Addr} {u : HO}, H a = some u → T a = none := fun {a u} e => by
    cases z : T a with
    | none => rfl
    | some o => rw [hT a o z] at e; cases e
  have le := le_on hz
  have asT : ∀ a ∈ g.as, T a = none := fun a ha => by
    obtain ⟨k, hk, e⟩ := List.mem_iff_getElem.mp ha
    have hk2 : k < st.length := by rw [← so.len]; exact hk
    obtain ⟨ps', z, _⟩ := so.at_ k a st[k] (by rw [← e]; simp [hk]) (by simp [hk2])
    exact nT z
  refine ⟨le, fun a u h => ?_, ⟨so.len, so.nd, fun a ha => ?_, fun k a kvs h1 h2 => ?_, fun y d hy => ?_, fun p hp => ?_, so.cci⟩, fun g' H' st' gr sb' so' => ?_⟩
  · show onH T H a = some u
    have h : onH T g.Fz a = some u := h
    cases z : T a with
    | none => rw [on_none z] at h ⊢; exact sb a u h
    | some o => rw [on_some z] at h ⊢; exact h
  · show onH T g.Fz a = none
    rw [on_none (asT a ha)]; exact so.nz a ha
  · obtain ⟨ps, z, cr⟩ := so.at_ k a kvs h1 h2
    exact ⟨ps, by rw [on_none (nT z)]; exact z, ⟨cr.1, (cr.2.le le).am m⟩⟩
  · obtain ⟨c, v, ob, h1, h2, h3⟩ := hm y d hy
    exact ⟨c, v, ob, h1, on_some h2, (h3.le le).am m⟩
  · obtain ⟨h0, ps, h1, h2, h3⟩ := so.tabs p hp
    refine ⟨by show onH T g.Fz p.1 = none; rw [on_none (nT h1)]; exact h0, ps, by rw [on_none (nT h1)]; exact h1, h2, fun pos cv hc => ?_⟩
    obtain ⟨c, e1, e2⟩ := h3 pos cv hc
    exact ⟨c, e1, le.fz _ _ e2⟩
  · have kT : ∀ {a o}, T a = some o → g'.Fz a = some o := fun {a o} q => gr.le.fz a o (on_some q)
    have kH : ∀ {a o}, T a = some o → H' a = some o := fun {a o} q => sb' _ _ (kT q)
    have gr' : Grow g H (offG T g') (offH T H') := by
      refine ⟨⟨fun a u h => ?_, gr.le.as, gr.le.vc⟩, fun a u h => ?_, fun a h => ?_, fun a u h n t => ?_, fun a u h => ?_⟩
      · show offH T g'.Fz a = some u
        have z : T a = none := nT (sb a u h)
        rw [off_none z]; exact gr.le.fz a u (le.fz a u h)
      · obtain ⟨z, h⟩ := off_at h
        rcases gr.new a u h with q | q
        · have q : onH T g.Fz a = some u := q
          rw [on_none z] at q; exact .inl q
        · rw [on_none z] at q; exact .inr q
      · rcases gr.newA a h with q | q
        · exact .inl q
        · cases z : T a with
          | none => rw [on_none z] at q; exact .inr q
          | some o => rw [on_some z] at q; cases q
      · have z := nT h
        rw [off_none z]; exact gr.keep a u (by rw [on_none z]; exact h) n t
      · have z := nT h
        rw [off_none z]; exact gr.there a u (by rw [on_none z]; exact h)
    have ncell : ∀ {a : Addr} {u : HO}, H' a = some u → (∀ ob v, u ≠ .frz ob (CellV a v)) → T a = none := fun {a u} e n => by
      cases z : T a with
      | none => rfl
      | some o =>
        obtain ⟨ob, v, rfl⟩ := cT a o z
        rw [kH z] at e; cases e
        exact (n _ _ rfl).elim
    refine ⟨gr', fun a u h => ?_, ⟨so'.len, so'.nd, fun a ha => ?_, fun k a kvs h1 h2 => ?_, fun y d hy => ?_, fun p hp => ?_, so.cci⟩, fun v r rv => ?_⟩
    · obtain ⟨z, h⟩ := off_at h
      rw [off_none z]; exact sb' a u h
    · show offH T g'.Fz a = none
      cases z : T a with
      | none => rw [off_none z]; exact so'.nz a ha
      | some o => exact off_some z
    · obtain ⟨ps, z, cr⟩ := so'.at_ k a kvs h1 h2
      exact ⟨ps, by rw [off_none (ncell z fun _ _ z => by cases z)]; exact z, ⟨cr.1, (cr.2.off cT fun a o q => kT q).unam⟩⟩
    · rw [hamb] at hy; cases hy
    · obtain ⟨h0, ps, h1, h2, h3⟩ := so'.tabs p hp
      have z := ncell h1 fun _ _ z => by cases z
      refine ⟨by show offH T g'.Fz p.1 = none; rw [off_none z]; exact h0, ps, by rw [off_none z]; exact h1, h2, fun pos cv hc => ?_⟩
      obtain ⟨c, e1, e2⟩ := h3 pos cv hc
      exact ⟨c, e1, fz_off cT (fun a o q => kT q) e2 fun _ _ z => by unfold CodeO at z; cases z⟩
    · cases r with
      | val d => exact (RepV.off cT (fun a o q => kT q) rv).unam
      | own ds =>
        obtain ⟨a, xs, e, h1, r1, h2, h3, h4⟩ := rv
        have z := ncell h1 fun _ _ z => by cases z
        refine ⟨a, xs, e, by rw [off_none z]; exact h1, (r1.off cT fun a o q => kT q).unam, by show offH T g'.Fz a = none; rw [off_none z]; exact h2, h3, by rw [on_none z] at h4; exact h4⟩
theorem noRz_cases {α : Type} {f : M α} {st : Store} {F : Fm} {g : Gh} {H : Hp} {σ : L2.St} {k : α → Gh → Hp → Store → Prop} (p : Post F g H σ (noRz f st) k) : ∃ a st', f st = .ok a st' ∧ Post F g H σ (.ok a st') k := by
  unfold noRz at p
  cases e : f st with
  | ok a st' => rw [e] at p; exact ⟨a, st', rfl, p⟩
  | rz i fs st' => rw [e] at p; exact p.elim
  | stuck => rw [e] at p; exact p.elim
section
variable {F : Fm} {X : Cx} {k n : Nat} {f : Addr} {fd : FuncData} {ps : List Str} {x : Str} {p pos : Pos} {e : Expr} {es : List Expr}
theorem pe_callA {h : List (Str × D) → List D → M RV} {fs : Ev → M (List D)} {L : List (Str × Nat)} (hK : X.K = F.K) (hcc : F.pa.cc = X.env.cells) (hamb : F.pa.amb = []) (hfn : ∀ y, X.fn y = true) (hN : X.N.Nodup) (hL : ∀ q ∈ L, X.N[q.2]? = some q.1 ∧ X.env.kindOf q.1 = some .cell)
    (G : ∀ m, FnG X.prog X.w X.K X.mg X.base (L2.CX X.prog X.w) k f fd ps (spD F.K (F.pa.am m) F.exF n (h m))) (hr : Room k X.A) (hgd : X.A.guards = some []) (hg : Gl X x) (hm : X.mg x = some (.ref f)) (hk : PySem.W.keepIn X.K (.ref f) = true) (hb : Binds X.K fd ps [])
    (hp : ∀ e' ∈ e :: es, plainE e' = true) (ha : PA X (e :: es) (tA F fs)) (hdb : (x == ("__debug__" : Str)) = false) : PE X (.Call (.Name x p) (e :: es) [] pos) (tR F (callA L n h fs)) := by
  refine ⟨fun pins s σ H Q I hq => ?_⟩
  obtain ⟨g, ρ, st, R, q⟩ := hq
  refine wpAny_Call_Name_kw (ld_glob I hg hm ?_ hdb)
  have hta : tA F fs σ H fun vs H1 => ∃ g1 ds st1, Grow g H g1 H1 ∧ SRel F g1 H1 σ ρ st1 ∧ RepVs F.K F.pa g1 vs ds ∧ Post F g1 H1 σ ((if ds.length = n then noRz (h (ambOf L ρ) ds) else stuck : M RV) st1) fun r g' H' _ => ∀ v, RVR F.K F.pa H g' H' v r → Q v H' :=
    tA.use R q fun ds g1 H1 st1 vs gr1 R1 rvs q1 => ⟨g1, ds, st1, gr1, R1, rvs, q1⟩
  refine PySem.W.callWith_K (h₀ := X.base) I.ok.mod.kin hk (thn (ha.run pos pins s σ H _ I hta) fun us s1 ⟨vs, H1, I1, r, q⟩ => ⟨I1.kIn, ?_⟩) (star_cons (hp e (by simp)) X.env) (star_any fun e' he => hp e' (by simp [he]))
  obtain ⟨g1, ds, st1, gr1, R1, rvs, p1⟩ := q
  split at p1
  rotate_left
  · exact p1.elim
  rename_i hl
  obtain ⟨rr, st2, hrun, p2⟩ := noRz_cases p1
  -- the cells
  obtain ⟨m, hns, hloc⟩ := I1.loc
  obtain ⟨T, hT1, hT2⟩ := cells_pick fun a o => ∃ y i v ob u d, (y, i) ∈ L ∧ ρ[i]? = some (.val d) ∧ σ[i]?.join = some v ∧ X.env.cells.lookup y = some a ∧ s1.heap.get? a = some ob ∧ ob.data = .cell (some u) ∧ RelV v u ∧ o = .frz ob (CellV a v)
  have hTH : ∀ a o, T a = some o → H1 a = none := fun a o e => by
    obtain ⟨y, i, v, ob, u, d, _, _, _, hc, _⟩ := hT1 a o e
    exact I1.freeC y a hc
  have cT : CellT T := fun a o e => by
    obtain ⟨y, i, v, ob, u, d, _, _, _, _, _, _, _, ho⟩ := hT1 a o e
    exact ⟨ob, v, ho⟩
  have hage : ∀ a o, T a = some o → X.s_0.heap.objs.size ≤ a := fun a o e => by
    obtain ⟨y, i, v, ob, u, d, _, _, _, hc, _⟩ := hT1 a o e
    exact I1.ok.cab y a (hfn y) hc
  have hfrs : ∀ a o, T a = some o → a ∉ frs X.stack := fun a o e hb => by
    rcases List.mem_cons.mp (I1.stkSub a hb) with z | z
    · obtain ⟨y, i, v, ob, u, d, _, _, _, hc, _⟩ := hT1 a o e
      exact I1.cne y a hc z
    · obtain ⟨_, o', ho, _⟩ := I1.ok.funs.mem z
      exact absurd (Heap.lt_size ho) (Nat.not_lt_of_le (hage a o e))
  have tok : TOk T H1 s1.heap (frs X.stack) := fun a o e => by
    obtain ⟨y, i, v, ob, u, d, _, _, _, hc, hget, hd, rv, ho⟩ := hT1 a o e
    exact ⟨hTH a o e, hfrs a o e, ob, v, u, ho, rv, hd, hget⟩
  have hmA : ∀ y d, (ambOf L ρ).lookup y = some d → ∃ c v ob, F.pa.cc.lookup y = some c ∧ T c = some (.frz ob (CellV c v)) ∧ RepV F.K F.pa g1 v d := fun y d hy => by
    obtain ⟨i, hi, he⟩ := ambOf_some hy
    obtain ⟨hNi, hki⟩ := hL _ hi
    obtain ⟨v, e1, rv⟩ := R1.sl i _ he
    obtain ⟨u, ru, lk⟩ := hloc i y v hNi (join_some e1) (.inr (.inl hki))
    rcases lk with ⟨z, _⟩ | ⟨_, c, hc, ob, hob, hd⟩
    · rw [hki] at z; cases z
    · obtain ⟨o', hTo, y', i', v', ob', u', d', hi', he', e1', hc', hob', hd', rv', ho'⟩ := hT2 c _ ⟨y, i, v, ob, u, d, hi, he, e1, hc, hob, hd, ru, rfl⟩
      have ey : y' = y := I1.ok.inj y' y c hc' hc
      subst ey
      have ei : i' = i := nodup_ix hN (hL _ hi').1 hNi
      subst ei
      rw [e1] at e1'; cases e1'
      rw [hob] at hob'; cases hob'
      subst ho'
      exact ⟨c, v, ob, by rw [hcc]; exact hc, hTo, rv⟩
  obtain ⟨le, sb2, so2, back⟩ := off_post (m := ambOf L ρ) hTH cT R1.sub R1.sto hamb hmA
  have e0 : Env0 X.prog X.w X.K X.mg X.base X.A X.stack s1 (onH T H1) := by
    have e := I1.env0
    refine ⟨e.frames, e.mod, fun b o hb => ⟨(e.bs b o hb).1, ?_⟩, e.bsz, e.funs, fun b hb => ?_, hok_on e.hok tok (fun _ _ _ _ z => z) hTH, e.bare⟩
    · rw [on_none]
      · exact (e.bs b o hb).2
      · cases z : T b with
        | none => rfl
        | some o' => exact absurd (Heap.lt_size hb) (Nat.not_lt_of_le (Nat.le_trans I1.ok.bsz (hage b o' z)))
    · rw [on_none]
      · exact e.frf b hb
      · cases z : T b with
        | none => rfl
        | some o' => exact (hfrs b o' z hb).elim
  have hlen : us.length = ps.length := by
    rw [← r.length]
    exact (G (ambOf L ρ)).len vs (onH T H1) (fun v H' => Q v (offH T H')) (fun _ _ _ => False) ⟨onG T g1, ds, st1, sb2, so2, (rvs.le le).am (ambOf L ρ), by rw [rvs.1, hl], by
      rw [hrun]
      intro g' H' gr sb so v rv
      obtain ⟨b1, b2, b3, b4⟩ := back g' H' st2 gr sb so
      exact p2 _ _ b1 b2 b3 v ((b4 v _ rv).base gr1)⟩
  have bnd := hb s1 us I1.kIn (by rw [List.append_nil]; exact hlen)
  rw [List.append_nil] at bnd
  refine wpAny_call (codeAny_mono ((G (ambOf L ρ)).run X.A X.stack s1 (onH T H1) ⟨us, []⟩ us vs (fun v H' => Q v (offH T H')) (fun _ _ _ => False) hr hgd e0 bnd r ⟨onG T g1, ds, st1, sb2, so2, (rvs.le le).am (ambOf L ρ), by rw [rvs.1, hl], by
      rw [hrun]
      intro g' H' gr sb so v rv
      obtain ⟨b1, b2, b3, b4⟩ := back g' H' st2 gr sb so
      exact p2 _ _ b1 b2 b3 v ((b4 v _ rv).base gr1)⟩) fun r s' hq => ?_)
  cases r with
  | error e =>
    obtain ⟨_, _, _, _, _, _, _, _, _, _, _, _, z⟩ := hq
    exact z.elim
  | ok fl =>
    cases fl with
    | ret u =>
      obtain ⟨v, H2, os2, bare2, un2, hok2, rv2, q2⟩ := hq
      obtain ⟨un3, hok3⟩ := un_off tok un2 hok2
      exact I1.after ⟨v, offH T H2, os2, bare2, un3, hok3, rv2, q2⟩
    | next => exact False.elim hq
    | brk => exact False.elim hq
    | cont => exact False.elim hq
end
end Dn

set_option Elab.async false
set_option linter.all false
set_option maxRecDepth 100000
set_option maxHeartbeats 4000000
/-! Den, part Q: a lambda entered. -/
namespace Dn
open PySem PySem.Spec PyProof.Rows L2 LamX

abbrev lamEnv2 (q : Str) (sc : Scope) (L f c' : Addr) (cl : List (Str × Addr)) : PySem.Env := PySem.W.envX q sc L f (.ref c') cl
def lamCx2 (P : Program) (w : World) (K : PySem.W.Frag) (mg : Str → Option Value) (base : Heap) (N : List Str) (q : Str) (sc : Scope) (A : Around) (outer : List PySem.Env) (s : Shared) (H : Hp) (E : XK) (f c' : Addr) (cl : List (Str × Addr)) : Cx where
  prog := P
  w := w
  K := K
  mg := mg
  base := base
  A := A.deeper (lamEnv2 q sc s.heap.objs.size f c' cl)
  N := N
  s_0 := s
  H_0 := H
  env := lamEnv2 q sc s.heap.objs.size f c' cl
  outer := outer
  stack := lamEnv2 q sc s.heap.objs.size f c' cl :: outer
  ex := []
  fn := fun _ => false
  calm := true
  pn := []
  xe := fun e s' => wpAny (model P w) (A.deeper (lamEnv2 q sc s.heap.objs.size f c' cl)) (leaving (lamEnv2 q sc s.heap.objs.size f c' cl) e) (fun _ s'' => L2.CX P w outer H s E e s'') (fun e' s'' => L2.CX P w outer H s E e' s'') s'
/-- no parameter, no name of its own; N: its captured names -/
structure LamN (N : List Str) (sc : Scope) : Prop where
  kind : sc.kind = .function
  co : sc.isCoroutine = false
  gen : sc.isGenerator = false
  own : ∀ y ∈ sc.names, y.2 ≠ .local ∧ y.2 ≠ .cell
  free : ∀ y ∈ sc.names, y.2 = .free → y.1 ∈ N
  nd : N.Nodup
def lamNB (N : List Str) (sc : Scope) : Bool := decide (sc.kind = .function) && (!sc.isCoroutine && (!sc.isGenerator && ((sc.names.all fun y => !decide (y.2 = .local) && !decide (y.2 = .cell) && (!decide (y.2 = .free) || decide (y.1 ∈ N))) && decide N.Nodup)))
theorem lamN_by {N : List Str} {sc : Scope} (h : lamNB N sc = true) : LamN N sc := by
  unfold lamNB at h
  simp only [Bool.and_eq_true, Bool.or_eq_true, Bool.not_eq_true', decide_eq_true_eq, decide_eq_false_iff_not, List.all_eq_true] at h
  obtain ⟨h1, h2, h3, h4, h5⟩ := h
  exact ⟨h1, h2, h3, fun y hy => (h4 y hy).1, fun y hy e => (h4 y hy).2.resolve_left fun z => z e, h5⟩
section
variable {P : Program} {w : World} {K : PySem.W.Frag} {mg : Str → Option Value} {base : Heap} {N : List Str} {q : Str} {sc : Scope} {A : Around} {outer : List PySem.Env} {s : Shared} {H : Hp} {E : XK} {f c' : Addr} {cc cl : List (Str × Addr)} {h₁ : Heap} {tk : Nat} {σ : L2.St}
theorem clo_look (hin : ∀ y ∈ sc.names, y.2 = .free → ∃ c, cc.lookup y.1 = some c) {y : Str} {c : Addr} (e : (cloFrom cc sc.names []).lookup y = some c) : cc.lookup y = some c ∧ (y, NameKind.free) ∈ sc.names := by
  rcases cloFrom_mem (PySem.mem_of_lookup e) with hm | ⟨h1, h2⟩
  · cases hm
  · obtain ⟨c1, hc⟩ := hin _ h1 rfl
    have e2 : c = c1 := by rw [h2, hc] <;> rfl
    rw [e2]
    exact ⟨hc, h1⟩
theorem lam_start4 (L : LamN N sc) (e0 : Env0 P w K mg base A outer s H) (hd : A.handled = none) (hin : ∀ y ∈ sc.names, y.2 = .free → ∃ c, cc.lookup y.1 = some c) (inj : ∀ x y c, cc.lookup x = some c → cc.lookup y = some c → x = y)
    (hcell : ∀ y c, (y, NameKind.free) ∈ sc.names → cc.lookup y = some c → H c = none ∧ ∃ v, s.heap.IsCell c v) (hlen : σ.length = N.length)
    (hval : ∀ (i : Nat) y v, N[i]? = some y → σ[i]? = some (some v) → ∃ c u, cc.lookup y = some c ∧ RelV v u ∧ s.heap.IsCell c (some u))
    (hns : h₁.Ns s.heap.objs.size fun y => ([] : List (Str × Value)).reverse.lookup y) (kp : ∀ b o, s.heap.get? b = some o → h₁.get? b = some o) :
    Inv (lamCx2 P w K mg base N q sc A outer s H E f c' (cloFrom cc sc.names [])) [] σ H { s with heap := h₁, toks := tk } := by
  have look : ∀ {y}, sc.names.lookup y = some .free → ∃ c, (cloFrom cc sc.names []).lookup y = some c := fun {y} hl => mem_lookup (cloFrom_has (cells := cc) (acc := []) (PySem.mem_of_lookup hl))
  have noA : ∀ b : Addr, b ∉ (lamCx2 P w K mg base N q sc A outer s H E f c' (cloFrom cc sc.names [])).ex := fun b z => absurd (show b ∈ ([] : List Addr) from z) (by simp)
  refine ⟨⟨e0.mod, L.kind, rfl, rfl, Nat.le_refl _, fun y z c e1 e2 => inj y z c (clo_look hin e1).1 (clo_look hin e2).1, fun y hy => ?_, fun y c z _ => ?_, fun _ => hd, Around.frames_deeper e0.frames, .inr ⟨rfl, rfl⟩, fun b z => absurd z (noA b), e0.bs, e0.bsz, fun b _ _ => noA b,
      fun b z => absurd z (noA b), e0.funs, e0.frf⟩,
    rfl, e0.bare, Un.kept kp, ⟨_, hns, fun i y v e1 e2 e3 => ?_⟩, fun y c e => ?_, e0.hok.fresh (Nat.le_refl _), fun y c e => ?_, fun q hq => absurd (show q ∈ ([] : List (Addr × Obj)) ++ [] from hq) (by simp), e0.hok.kept kp, hlen⟩
  · have hy : sc.names.lookup y = some .cell ∨ sc.names.lookup y = some .free := hy
    rcases hy with hy | hy
    · exact absurd rfl (L.own _ (PySem.mem_of_lookup hy)).2
    · exact look hy
  · have z : false = true := z
    cases z
  · have e3 : Vis sc y := e3
    rcases e3 with k | k | k
    · exact absurd rfl (L.own _ (PySem.mem_of_lookup k)).1
    · exact absurd rfl (L.own _ (PySem.mem_of_lookup k)).2
    · obtain ⟨c, u, h1, h2, h3⟩ := hval i y v e1 e2
      obtain ⟨c2, hc2⟩ := look k
      have := (clo_look hin hc2).1
      rw [h1] at this
      cases this
      exact ⟨u, h2, .inr ⟨.inr k, c, hc2, h3.keeps kp⟩⟩
  · obtain ⟨h1, h2⟩ := clo_look hin e
    obtain ⟨_, v, z⟩ := hcell y c h2 h1
    exact ⟨v, z.keeps kp⟩
  · obtain ⟨h1, h2⟩ := clo_look hin e
    exact (hcell y c h2 h1).1
end
/-- what a lambda promises; m: what stands in the captured names -/
structure FnL (P : Program) (w : World) (K : PySem.W.Frag) (mg : Str → Option Value) (base : Heap) (k : Nat) (pa : PAd) (exF : List (List Str)) (q : Str) (ps : Arguments) (b : Expr) (sc : Scope) (h : List (Str × D) → M RV) : Prop where
  run : ∀ (m : List (Str × D)) (A : Around) (outer : List PySem.Env) (s : Shared) (H : Hp) (f c' : Addr) (pm ctv : Value) (Q : VK) (E : XK) (g : Gh) (st : Store), Room k A → A.guards = some [] → Env0 P w K mg base A outer s H →
    s.heap.get? f = some (PySem.W.kla_obj "<lambda>" q ps b sc (cloFrom pa.cc sc.names []) pm c' ctv) → (∃ (oc : Obj) (vs : Array Value) (t : Tok), s.heap.get? c' = some oc ∧ oc.data = .fields vs ∧ vs[1]? = some (.str q t)) →
    Sub g H → StoR K (pa.am m) g H st → Post ⟨K, pa.am m, exF, g, H, fun cls dx _ H' => E cls dx H', none⟩ g H [] (h m st) (fun r g' H' _ => ∀ v, RVR K (pa.am m) H g' H' v r → Q v H') →
    codeAny (model P w) A (.call (.ref f) ⟨[], []⟩) (CR (L2.CX P w) outer P w H s Q E) s
def startL (N : List Str) (m : List (Str × D)) : Ev := N.map fun y => match m.lookup y with
  | some d => .val d
  | none => .un
def lamR (N : List Str) (f : Ev → M RV) (m : List (Str × D)) : M RV := if N.all fun y => (m.lookup y).isSome then f (startL N m) else stuck
section
variable {K : PySem.W.Frag} {pa : PAd} {m : List (Str × D)} {T H : Hp} {g : Gh} {st : Store}
/-- the cells, taken out -/
theorem lam_cells (sb : Sub g H) (so : StoR K (pa.am m) g H st) : ∃ T : Hp, CellT T ∧ (∀ a o, T a = some o → g.Fz a = some o ∧ H a = some o) ∧ ∀ y d, m.lookup y = some d → ∃ c v ob, pa.cc.lookup y = some c ∧ T c = some (.frz ob (CellV c v)) ∧ RepV K pa g v d := by
  obtain ⟨T, h1, h2⟩ := cells_pick fun a o => ∃ y d ob v, m.lookup y = some d ∧ pa.cc.lookup y = some a ∧ g.Fz a = some o ∧ o = .frz ob (CellV a v)
  refine ⟨T, fun a o e => ?_, fun a o e => ?_, fun y d hy => ?_⟩
  · obtain ⟨y, d, ob, v, _, _, _, h⟩ := h1 a o e
    exact ⟨ob, v, h⟩
  · obtain ⟨y, d, ob, v, _, _, h, _⟩ := h1 a o e
    exact ⟨h, sb a o h⟩
  · obtain ⟨c, v, ob, e1, e2, e3⟩ := so.amb y d hy
    obtain ⟨o', e4, y', d', ob', v', _, _, e5, e6⟩ := h2 c _ ⟨y, d, ob, v, hy, e1, e2, rfl⟩
    rw [e2] at e5
    cases e5
    exact ⟨c, v, ob, e1, e4, e3.unam⟩
theorem on_off (hT : ∀ a o, T a = some o → H a = some o) : onH T (offH T H) = H := by
  funext a
  cases z : T a with
  | none => rw [on_none z, off_none z]
  | some o => rw [on_some z, hT a o z]
theorem on_post (cT : CellT T) (hT : ∀ a o, T a = some o → g.Fz a = some o ∧ H a = some o) (sb : Sub g H) (so : StoR K (pa.am m) g H st) :
    Sub (offG T g) (offH T H) ∧ StoR K (pa.am []) (offG T g) (offH T H) st ∧
    ∀ g' H' st', (∀ a o, T a = some o → H' a = none) → Grow (offG T g) (offH T H) g' H' → Sub g' H' → StoR K (pa.am []) g' H' st' → Grow g H (onG T g') (onH T H') ∧ Sub (onG T g') (onH T H') ∧ StoR K (pa.am m) (onG T g') (onH T H') st' ∧ Le g' (onG T g') ∧ (∀ v r, RVR K (pa.am []) (offH T H) g' H' v r → RVR K (pa.am m) H (onG T g') (onH T H') v r) := by
  have kz : ∀ a o, T a = some o → g.Fz a = some o := fun a o e => (hT a o e).1
  have ncell : ∀ {a : Addr} {u : HO}, H a = some u → (∀ ob v, u ≠ .frz ob (CellV a v)) → T a = none := fun {a u} e n => by
    cases z : T a with
    | none => rfl
    | some o =>
      obtain ⟨ob, v, rfl⟩ := cT a o z
      rw [(hT a _ z).2] at e; cases e
      exact (n _ _ rfl).elim
  refine ⟨fun a u h => ?_, ⟨so.len, so.nd, fun a ha => ?_, fun k a kvs h1 h2 => ?_, fun y d hy => (by cases hy), fun p hp => ?_, so.cci⟩, fun g' H' st' hn gr sb' so' => ?_⟩
  · obtain ⟨z, h⟩ := off_at h
    rw [off_none z]; exact sb a u h
  · show offH T g.Fz a = none
    cases z : T a with
    | none => rw [off_none z]; exact so.nz a ha
    | some o => exact off_some z
  · obtain ⟨ps, z, cr⟩ := so.at_ k a kvs h1 h2
    exact ⟨ps, by rw [off_none (ncell z fun _ _ z => by cases z)]; exact z, ⟨cr.1, ((cr.2.off cT kz).unam).am []⟩⟩
  · obtain ⟨h0, ps, h1, h2, h3⟩ := so.tabs p hp
    have z := ncell h1 fun _ _ z => by cases z
    refine ⟨by show offH T g.Fz p.1 = none; rw [off_none z]; exact h0, ps, by rw [off_none z]; exact h1, h2, fun pos cv hc => ?_⟩
    obtain ⟨c, e1, e2⟩ := h3 pos cv hc
    exact ⟨c, e1, fz_off cT kz e2 fun _ _ z => by unfold CodeO at z; cases z⟩
  · have hz' : ∀ a o, T a = some o → g'.Fz a = none := fun a o e => sb'.none (hn a o e)
    have le := le_on hz'
    have nT : ∀ {a : Addr} {u : HO}, H' a = some u → T a = none := fun {a u} e => by
      cases z : T a with
      | none => rfl
      | some o => rw [hn a o z] at e; cases e
    have asT : ∀ a ∈ g'.as, T a = none := fun a ha => by
      obtain ⟨k, hk, e⟩ := List.mem_iff_getElem.mp ha
      have hk2 : k < st'.length := by rw [← so'.len]; exact hk
      obtain ⟨ps', z, _⟩ := so'.at_ k a st'[k] (by rw [← e]; simp [hk]) (by simp [hk2])
      exact nT z
    have gr' : Grow g H (onG T g') (onH T H') := by
      refine ⟨⟨fun a u h => ?_, gr.le.as, gr.le.vc⟩, fun a u h => ?_, fun a h => ?_, fun a u h n t => ?_, fun a u h => ?_⟩
      · show onH T g'.Fz a = some u
        cases z : T a with
        | none => rw [on_none z]; exact gr.le.fz a u (by show offH T g.Fz a = some u; rw [off_none z]; exact h)
        | some o => rw [on_some z]; rw [kz a o z] at h; exact h
      · have h : onH T g'.Fz a = some u := h
        cases z : T a with
        | none =>
          rw [on_none z] at h
          rcases gr.new a u h with q | q
          · exact .inl (off_at q).2
          · rw [off_none z] at q; exact .inr q
        | some o =>
          rw [on_some z] at h; cases h
          exact .inl (kz a _ z)
      · rcases gr.newA a h with q | q
        · exact .inl q
        · rw [off_none (asT a h)] at q; exact .inr q
      · cases z : T a with
        | none => rw [on_none z]; exact gr.keep a u (by rw [off_none z]; exact h) n t
        | some o => rw [on_some z]; rw [(hT a o z).2] at h; exact h
      · cases z : T a with
        | none => rw [on_none z]; exact gr.there a u (by rw [off_none z]; exact h)
        | some o => exact ⟨o, on_some z⟩
    refine ⟨gr', fun a u h => ?_, ⟨so'.len, so'.nd, fun a ha => ?_, fun k a kvs h1 h2 => ?_, fun y d hy => ?_, fun p hp => ?_, so.cci⟩, le, fun v r rv => ?_⟩
    · show onH T H' a = some u
      have h : onH T g'.Fz a = some u := h
      cases z : T a with
      | none => rw [on_none z] at h ⊢; exact sb' a u h
      | some o => rw [on_some z] at h ⊢; exact h
    · show onH T g'.Fz a = none
      rw [on_none (asT a ha)]; exact so'.nz a ha
    · obtain ⟨ps, z, cr⟩ := so'.at_ k a kvs h1 h2
      exact ⟨ps, by rw [on_none (nT z)]; exact z, ⟨cr.1, ((cr.2.le le).unam).am m⟩⟩
    · obtain ⟨c, v, ob, h1, h2, h3⟩ := so.amb y d hy
      exact ⟨c, v, ob, h1, gr'.le.fz _ _ h2, h3.le gr'.le⟩
    · obtain ⟨h0, ps, h1, h2, h3⟩ := so'.tabs p hp
      refine ⟨by show onH T g'.Fz p.1 = none; rw [on_none (nT h1)]; exact h0, ps, by rw [on_none (nT h1)]; exact h1, h2, fun pos cv hc => ?_⟩
      obtain ⟨c, e1, e2⟩ := h3 pos cv hc
      exact ⟨c, e1, le.fz _ _ e2⟩
    · cases r with
      | val d => exact ((RepV.le le rv).unam).am m
      | own ds =>
        obtain ⟨a, xs, e, h1, r1, h2, h3, h4⟩ := rv
        have z := nT h1
        exact ⟨a, xs, e, by rw [on_none z]; exact h1, ((r1.le le).unam).am m, by show onH T g'.Fz a = none; rw [on_none z]; exact h2, h3, by rw [off_none z] at h4; exact h4⟩
end
theorem startL_rel {K : PySem.W.Frag} {pa : PAd} {m : List (Str × D)} {T : Hp} {g : Gh} (hm : ∀ y d, m.lookup y = some d → ∃ c v ob, pa.cc.lookup y = some c ∧ T c = some (.frz ob (CellV c v)) ∧ RepV K pa g v d) :
    ∀ (N : List Str), (∀ y ∈ N, (m.lookup y).isSome = true) → ∃ σ : L2.St, σ.length = N.length ∧ ∀ (i : Nat) y, N[i]? = some y → ∃ d c v ob, m.lookup y = some d ∧ σ[i]? = some (some v) ∧ pa.cc.lookup y = some c ∧ T c = some (.frz ob (CellV c v)) ∧ RepV K pa g v d
  | [], _ => ⟨[], rfl, fun i y h => by simp at h⟩
  | y :: N, h => by
    obtain ⟨σ, h1, h2⟩ := startL_rel hm N fun z hz => h z (by simp [hz])
    obtain ⟨d, hd⟩ := Option.isSome_iff_exists.mp (h y (by simp))
    obtain ⟨c, v, ob, e1, e2, e3⟩ := hm y d hd
    refine ⟨some v :: σ, by simp [h1], fun i z hz => ?_⟩
    cases i with
    | zero =>
      have : y = z := by simpa using hz
      subst this
      exact ⟨d, c, v, ob, hd, rfl, e1, e2, e3⟩
    | succ i =>
      obtain ⟨d', c', v', ob', w⟩ := h2 i z (by simpa using hz)
      exact ⟨d', c', v', ob', by simpa using w⟩
/-- a lambda keeps what its body computes -/
theorem lam_fn {P : Program} {w : World} {K : PySem.W.Frag} {mg : Str → Option Value} {base : Heap} {k : Nat} {pa : PAd} {exF : List (List Str)} {q : Str} {ps : Arguments} {b : Expr} {sc : Scope} {N : List Str} {f : Ev → M RV} (L : LamN N sc)
    (hbind : ∀ (cl : List (Str × Addr)) (pm cv ctv : Value), bindArgs (PySem.W.kla_fn "<lambda>" q ps b sc cl pm cv ctv) ⟨[], []⟩ = pure [])
    (hbody : ∀ (A : Around) (outer : List PySem.Env) (s : Shared) (H : Hp) (E : XK) (fa c' : Addr) (g : Gh), Room k (A.deeper (lamEnv2 q sc s.heap.objs.size fa c' (cloFrom pa.cc sc.names []))) → A.guards = some [] →
      PE (lamCx2 P w K mg base N q sc A outer s H E fa c' (cloFrom pa.cc sc.names [])) b (tR ⟨K, pa.am [], exF, g, H, fun cls dx _ H' => E cls dx H', none⟩ f)) :
    FnL P w K mg base (k + 1) pa exF q ps b sc (lamR N f) := by
  refine ⟨fun m A outer s H fa c' pm ctv Q E g st hr hgd e0 hf hc sb so p => ?_⟩
  unfold lamR at p
  split at p
  rotate_left
  · exact p.elim
  rename_i hN
  have hN : ∀ y ∈ N, (m.lookup y).isSome = true := fun y hy => List.all_eq_true.mp hN y hy
  obtain ⟨T, cT, hT, hmT⟩ := lam_cells sb so
  have hTH : ∀ a o, T a = some o → H a = some o := fun a o e => (hT a o e).2
  have eH := on_off hTH
  obtain ⟨σ, hσ, hσv⟩ := startL_rel hmT N hN
  obtain ⟨sb2, so2, back⟩ := on_post cT hT sb so
  have hIs : ∀ {a ob v}, T a = some (.frz ob (CellV a v)) → s.heap.get? a = some ob ∧ ∃ u, RelV v u ∧ ob.data = .cell (some u) ∧ s.heap.IsCell a (some u) := fun {a ob v} e => by
    obtain ⟨z1, ⟨u, r, o, z2, z3⟩, _⟩ := e0.hok a _ (hTH a _ e)
    rw [z1] at z2; cases z2
    exact ⟨z1, u, r, z3, _, z1, z3⟩
  have tok : TOk T (offH T H) s.heap (frs outer) := fun a o e => by
    obtain ⟨ob, v, rfl⟩ := cT a o e
    obtain ⟨z1, u, r, z2, _⟩ := hIs e
    exact ⟨off_some e, fun z => (by have := hTH a _ e; rw [e0.frf a z] at this; cases this), ob, v, u, rfl, r, z2, z1⟩
  have e1 : Env0 P w K mg base A outer s (offH T H) := by
    have sm : ∀ b, H b = none → offH T H b = none := fun b hb => by
      cases z : T b with
      | none => rw [off_none z]; exact hb
      | some o => exact off_some z
    exact ⟨e0.frames, e0.mod, fun b o hb => ⟨(e0.bs b o hb).1, sm b (e0.bs b o hb).2⟩, e0.bsz, e0.funs, fun b hb => sm b (e0.frf b hb), hok_off e0.hok fun a o e => .inr (by obtain ⟨ob, v, rfl⟩ := cT a o e; exact ⟨ob, v, hTH a _ e⟩), e0.bare⟩
  have hin : ∀ y ∈ sc.names, y.2 = .free → ∃ c, pa.cc.lookup y.1 = some c := fun y hy e => by
    obtain ⟨d, hd⟩ := Option.isSome_iff_exists.mp (hN _ (L.free y hy e))
    obtain ⟨c, v, ob, h1, _⟩ := hmT _ d hd
    exact ⟨c, h1⟩
  obtain ⟨oc, vs, t, hoc, hdc, hvc⟩ := hc
  have rc : codeAny (model P w) A (.call (.ref fa) ⟨[], []⟩) (CR (L2.CX P w) outer P w (offH T H) s (fun v H' => (∀ a o, T a = some o → H' a = none) → Q v (onH T H')) (fun cls d H' => (∀ a o, T a = some o → H' a = none) → E cls d (onH T H'))) s := by
    refine PySem.W.kla_callFunE hr.depth hf rfl L.co L.gen rfl ⟨c', oc, vs, t, rfl, hoc, hdc, hvc⟩ ?_
    rw [hbind]
    refine wpAny_pure (wpAny_newFunctionEnv (fun y hy => (L.own y hy).2) (fun y hy => absurd hy (by simp)) (fun h₁ hns hsb => ⟨(e0.mod.nolimit.keeps fun b o e => (e0.bs b o e).1).fresh _ hsb, ?_⟩) L.kind)
    show codeAny _ _ (.expr b (lamEnv2 q sc s.heap.objs.size fa c' (cloFrom pa.cc sc.names []))) _ _
    have kp : ∀ b o, s.heap.get? b = some o → h₁.get? b = some o := fun b o e => hsb.extBut b o (Nat.ne_of_lt (Heap.lt_size e)) (Heap.get?_push_of_some _ e)
    have J : Inv (lamCx2 P w K mg base N q sc A outer s (offH T H) (fun cls d H' => (∀ a o, T a = some o → H' a = none) → E cls d (onH T H')) fa c' (cloFrom pa.cc sc.names [])) [] σ (offH T H) { s with heap := h₁, toks := s.toks + ([] : List (Str × Value)).length } := by
      refine lam_start4 L e1 hr.hd hin so.cci (fun y c hy hc2 => ?_) hσ (fun i y v hi hv => ?_) hns kp
      · obtain ⟨d, hd⟩ := Option.isSome_iff_exists.mp (hN _ (L.free _ hy rfl))
        obtain ⟨c0, v, ob, h1, h2, _⟩ := hmT _ d hd
        rw [hc2] at h1; cases h1
        obtain ⟨_, u, _, _, z⟩ := hIs h2
        exact ⟨off_some h2, _, z⟩
      · obtain ⟨d, c, v', ob, h1, h2, h3, h4, h5⟩ := hσv i y hi
        rw [hv] at h2; cases h2
        obtain ⟨_, u, r, _, z⟩ := hIs h4
        exact ⟨c, u, h3, r, z⟩
    refine PySem.W.kla_codeExpr (wpAny_mono ((hbody A outer s (offH T H) (fun cls d H' => (∀ a o, T a = some o → H' a = none) → E cls d (onH T H')) fa c' (offG T g) (hr.deeper _) hgd).run [] _ σ (offH T H) (fun v H' => (∀ a o, T a = some o → H' a = none) → Q v (onH T H')) J ?_) (fun v s' hq => ?_) fun e s' hq => hq)
    · refine ⟨offG T g, startL N m, st, ⟨Grow.refl _ _, sb2, so2, by rw [hσ]; simp [startL], fun i sl hsl => ?_, fun i j a ds es _ h1 _ _ _ => ?_⟩, ?_⟩
      · unfold startL at hsl
        rw [List.getElem?_map] at hsl
        cases hy : N[i]? with
        | none => rw [hy] at hsl; cases hsl
        | some y =>
          rw [hy] at hsl
          obtain ⟨d, c, v, ob, h1, h2, h3, h4, h5⟩ := hσv i y hy
          have hsl : some (match m.lookup y with | some d => Slot.val d | none => Slot.un) = some sl := hsl
          rw [h1] at hsl; cases hsl
          exact ⟨v, by rw [h2]; rfl, (h5.off cT fun a o e => (hT a o e).1).am []⟩
      · unfold startL at h1
        rw [List.getElem?_map] at h1
        cases hy : N[i]? with
        | none => rw [hy] at h1; cases h1
        | some y =>
          rw [hy] at h1
          obtain ⟨d, c, v, ob, z1, _⟩ := hσv i y hy
          have h1 : some (match m.lookup y with | some d => Slot.val d | none => Slot.un) = some (.own ds) := h1
          rw [z1] at h1; cases h1
      · cases e : f (startL N m) st with
        | ok r st' =>
          rw [e] at p
          intro g' H' gr sb' so' v rv hn
          obtain ⟨b1, b2, b3, _, b4⟩ := back g' H' st' hn gr sb' so'
          exact p _ _ b1 b2 b3 v (b4 v r rv)
        | rz i fs st' =>
          rw [e] at p
          intro g' H' cls dx gr sb' so' ex hn
          obtain ⟨b1, b2, b3, le, _⟩ := back g' H' st' hn gr sb' so'
          obtain ⟨C, d, ws, names, x1, x2, x3, x4, x5, x6, x7⟩ := ex
          exact p _ _ cls dx b1 b2 b3 ⟨C, d, ws, names, x1, x2, x3, le.fz _ _ x4, x5, x6, ((RepVs.unam (x7.le le)).am m)⟩
        | stuck => rw [e] at p; exact p.elim
    · obtain ⟨w', H', J', rv, q⟩ := hq
      exact ⟨w', H', J'.os, J'.bare, J'.base, J'.hok, rv, q⟩
  refine codeAny_mono rc fun r s' hq => ?_
  cases r with
  | error e =>
    obtain ⟨a, B, H', cls, d, z1, z2, z3, z4, z5, z6, z7, z8⟩ := hq
    obtain ⟨u2, hok2, hB⟩ := ub_on tok z4 z3
    rw [eH] at u2
    have hn : ∀ a o, T a = some o → H' a = none := fun a o e => by
      obtain ⟨h0, _, ob, v, u', rfl, _, _, hg⟩ := tok a o e
      exact z4.free a ob hg h0
    refine ⟨a, B, onH T H', cls, d, z1, z2, hok2, u2, ?_, z6, z7, z8 hn⟩
    rw [on_none]
    · exact z5
    · cases z : T a with
      | none => rfl
      | some o =>
        obtain ⟨ob, e⟩ := hB a o z
        rw [z2.2.1] at e; cases e
  | ok fl =>
    cases fl with
    | ret u =>
      obtain ⟨v, H', os2, bare2, un2, hok2, rv2, q2⟩ := hq
      obtain ⟨un3, hok3⟩ := un_on tok un2 hok2
      rw [eH] at un3
      have hn : ∀ a o, T a = some o → H' a = none := fun a o e => by
        obtain ⟨h0, _, ob, v, u', rfl, _, _, hg⟩ := tok a o e
        exact un2.free a ob hg h0 (by simp)
      exact ⟨v, onH T H', os2, bare2, un3, hok3, rv2, q2 hn⟩
    | next => exact False.elim hq
    | brk => exact False.elim hq
    | cont => exact False.elim hq
end Dn

set_option Elab.async false
set_option linter.all false
set_option maxRecDepth 100000
set_option maxHeartbeats 4000000
/-! Den, part R: a lambda called, dicts made, a def by its body, a law's end. -/
namespace Dn
open PySem PySem.Spec PyProof.Rows L2 LamX

section
variable {F : Fm} {X : Cx} {pos : Pos}
def workE (j : Nat) (lb : Nat → M RV) : Ev → M RV := fun ρ => match (ρ[j]? : Option Slot) with
  | some (.val (.clo i)) => lb i
  | _ => stuck
theorem pe_work {x : Str} {p1 p2 : Pos} {j k : Nat} {lb : Nat → List (Str × D) → M RV} (hK : X.K = F.K) (hN : X.N[j]? = some x) (hv : Vis X.env.scope x) (hd : (x == ("__debug__" : Str)) = false) (hcd : (x == ("__classdict__" : Str)) = false)
    (G : ∀ i q ps b sc, F.pa.lams[i]? = some (q, ps, b, sc) → FnL X.prog X.w X.K X.mg X.base k F.pa F.exF q ps b sc (lb i)) (hr : Room k X.A) (hgd : X.A.guards = some []) (tk : Takes X F.W) :
    PE X (.Call (.Name x p1) [] [] p2) (tR F (workE j fun i => lb i F.pa.amb)) := by
  refine ⟨fun pins s σ H Q I hq => ?_⟩
  obtain ⟨g, ρ, st, R, q⟩ := hq
  unfold workE at q
  cases e : ρ[j]? with
  | none => simp only [e] at q; exact q.elim
  | some sl =>
    cases sl with
    | val d =>
      cases d with
      | clo i =>
        simp only [e] at q
        obtain ⟨v, e1, rv⟩ := R.sl j _ e
        obtain ⟨f, c', qn, ps, b, sc, rfl, hl, hf, hc⟩ := rv.clo_inv
        refine wpAny_Call_Name_kw (thn ((pe_var (pos := p1) (i := j) hN hv hd hcd).run pins s σ H (fun v H1 => v = .ref f ∧ H1 = H) I ⟨.ref f, join_some e1, rfl, rfl⟩) fun u s1 ⟨v, H1, I1, r1, q1⟩ => ?_)
        obtain ⟨ev, eH⟩ := q1
        subst ev
        subst eH
        obtain rfl : u = Value.ref f := r1
        obtain ⟨⟨pm, ctv, of1⟩, _⟩ := I1.hok f _ (R.sub _ _ hf)
        obtain ⟨cf, _⟩ := I1.hok c' _ (R.sub _ _ hc)
        refine PySem.W.callWith_F0 ⟨_, _, _, _, of1⟩ ?_
        refine wpAny_call (codeAny_mono ((G i qn ps b sc hl).run F.pa.amb X.A X.stack s1 H1 f c' pm ctv Q (WE F.W σ) g st hr hgd I1.env0 of1 cf R.sub (by rw [hK]; exact R.sto) ?_) fun r s' hq => ?_)
        · exact Post.conv (F := F) (F' := ⟨X.K, F.pa.am F.pa.amb, F.exF, g, H1, fun cls dx _ H' => WE F.W σ cls dx H', none⟩) (σ := σ) hK.symm rfl rfl (fun cls dx H h => h) q fun r g' H' st' hk v rv => hk v (by rw [← hK]; exact rv)
        · cases r with
          | error e => exact passAt tk σ pins H1 s1 e s' I1 hq
          | ok fl =>
            cases fl with
            | ret u => exact I1.after hq
            | next => exact False.elim hq
            | brk => exact False.elim hq
            | cont => exact False.elim hq
      | _ => simp only [e] at q; exact q.elim
    | un => simp only [e] at q; exact q.elim
    | own ds => simp only [e] at q; exact q.elim
    | exc i fs => simp only [e] at q; exact q.elim
/-! ### {"k": v, ..} -/
def prs (F : Fm) (ks : List Str) (fs : List (Ev → M D)) : List (TE × TE) := (ks.zip fs).map fun p => (tC (.str p.1), tE F p.2)
theorem prs_mono {σ : L2.St} {ρ : Ev} : ∀ {ks : List Str} {fs : List (Ev → M D)} {g : Gh} {H : Hp} {st : Store} {k : List D → Gh → Hp → Store → Prop} {Q : List (V × V) → Hp → Prop}, ks.length = fs.length → SRel F g H σ ρ st → Post F g H σ (fs.foldr aC aN ρ st) k →
    (∀ ds g' H' st' vs, Grow g H g' H' → SRel F g' H' σ ρ st' → RepVs F.K F.pa g' vs ds → vs.length = ks.length → k ds g' H' st' → Q ((ks.zip vs).map fun p => (.str p.1, p.2)) H') → tPairs (prs F ks fs) σ H Q
  | [], [], g, H, st, k, Q, _, R, p, c => c [] g H st [] (Grow.refl _ _) R RepVs.nil rfl ((p : Post F g H σ ((pure [] : M (List D)) st) k).pure R.sub R.sto)
  | [], f :: fs, g, H, st, k, Q, hl, R, p, c => by simp at hl
  | x :: ks, [], g, H, st, k, Q, hl, R, p, c => by simp at hl
  | x :: ks, f :: fs, g, H, st, k, Q, hl, R, p, c => by
    show tC (.str x) σ H fun x H1 => tE F f σ H1 fun y H2 => tPairs (prs F ks fs) σ H2 fun ps H3 => Q ((x, y) :: ps) H3
    show tE F f σ H fun y H2 => tPairs (prs F ks fs) σ H2 fun ps H3 => Q ((.str x, y) :: ps) H3
    have p : Post F g H σ ((f ρ >>= fun d => (fs.foldr aC aN ρ >>= fun ds => (pure (d :: ds) : M (List D)))) st) k := p
    refine tE.use R p fun d g1 H1 st1 v gr1 R1 rv p1 => ?_
    refine prs_mono (by simpa using hl) R1 p1.bind fun ds g2 H2 st2 vs gr2 R2 rvs hlen p2 => ?_
    have := c (d :: ds) g2 H2 st2 (v :: vs) (gr1.trans gr2) R2 (.cons (rv.le gr2.le) rvs) (by simp [hlen]) (p2.pure R2.sub R2.sto)
    simpa using this
inductive DispOk (F : Fm) (X : Cx) : List Str → List (Option Expr) → List Expr → List (Ev → M D) → Prop
  | nil : DispOk F X [] [] [] []
  | cons {k : Str} {j : Nat} {p : Pos} {e : Expr} {f : Ev → M D} {ks : List Str} {keys : List (Option Expr)} {es : List Expr} {fs : List (Ev → M D)} : PE X e (tE F f) → DispOk F X ks keys es fs → DispOk F X (k :: ks) (some (.Constant (.str k) j p) :: keys) (e :: es) (f :: fs)
theorem DispOk.facts {ks : List Str} {es : List Expr} {fs : List (Ev → M D)} {keys : List (Option Expr)} (h : DispOk F X ks keys es fs) : ks.length = fs.length ∧ keys.all (·.isSome) = true ∧ keys.length = es.length ∧ ks.length = keys.length ∧ PPs X pos keys es (prs F ks fs) := by
  induction h with
  | nil => exact ⟨rfl, rfl, rfl, rfl, pps_nil⟩
  | cons a _ ih => exact ⟨by simp [ih.1], by simpa using ih.2.1, by simp [ih.2.2.1], by simp [ih.2.2.2.1], pps_cons pe_str a ih.2.2.2.2⟩
theorem merge_app : ∀ {more kvs : List (Key × V)}, ((kvs ++ more).map (·.1)).Nodup → mergeK kvs more = kvs ++ more
  | [], kvs, _ => by simp [mergeK]
  | p :: more, kvs, h => by
    have h1 : ¬ (kvs.any fun kv => decide (kv.1 = p.1)) = true := fun z => by
      obtain ⟨q, hq, e⟩ := List.any_eq_true.mp z
      have e := of_decide_eq_true e
      rw [List.map_append, List.nodup_append] at h
      exact h.2.2 q.1 (List.mem_map_of_mem hq) p.1 (by simp) e
    have e1 : putK kvs p.1 p.2 = kvs ++ [p] := by
      unfold putK
      rw [if_neg h1]
    show mergeK (putK kvs p.1 p.2) more = _
    rw [e1, merge_app (by simpa using h)]
    simp
theorem pe_celE {ks : List Str} {es : List Expr} {fs : List (Ev → M D)} {keys : List (Option Expr)} (hd : DispOk F X ks keys es fs) (h0 : keys ≠ []) (h15 : keys.length ≤ 15) (hn : ks.Nodup) : PE X (.Dict keys es pos) (tE F (celE ks fs)) := by
  obtain ⟨hl, hall, hkl, hks, hpp⟩ := hd.facts (pos := pos)
  refine PE.mono (fun σ H Q ⟨g, ρ, st, R, q⟩ p hp => ?_) (pe_disp hpp hall hkl h0 h15)
  have np := R.sto.notNew hp
  have gr0 : Grow g H g (upd H p (.dK [])) := ⟨Le.refl g, fun _ _ h => .inl h, fun _ h => .inl h, fun a u h _ _ => by rw [upd_ne (ne_of_none h hp)]; exact h, fun a u h => ⟨u, by rw [upd_ne (ne_of_none h hp)]; exact h⟩⟩
  have R1 : SRel F g (upd H p (.dK [])) σ ρ st := R.grow gr0 (fun a u h => by rw [upd_ne (ne_of_none (R.sub a u h) hp)]; exact R.sub a u h) (R.sto.keepAll (calm_new hp) fun a ha => upd_ne fun e => np (by rw [← e]; exact ha))
  unfold celE at q
  rw [run_bind] at q
  cases hr : fs.foldr aC aN ρ st with
  | stuck => rw [hr] at q; exact q.elim
  | rz i gs st' =>
    rw [hr] at q
    refine prs_mono (k := fun _ _ _ _ => False) hl R1 (by rw [hr]; exact Post.grow (r := (.rz i gs st' : Res (List D))) gr0 q) fun ds g' H' st' vs _ _ _ _ z => z.elim
  | ok ds st' =>
    rw [hr] at q
    have q : Post F g H σ (.ok (.cel st'.length) (st' ++ [ks.zip ds])) fun d g' H' _ => ∀ v, RepV F.K F.pa g' v d → Q v H' := q
    refine prs_mono (k := fun ds' _ _ st2 => ds' = ds ∧ st2 = st') hl R1 (by rw [hr]; exact fun _ _ _ _ _ => ⟨rfl, rfl⟩) fun ds' g2 H2 st2 vs gr2 R2 rvs hlen ⟨e1, e2⟩ => ?_
    subst e1
    subst e2
    have hp2 : H2 p = some (.dK []) := gr2.keep p _ upd_same np (fun _ z => by cases z)
    have z2 : g2.Fz p = none := by
      cases q : g2.Fz p with
      | none => rfl
      | some u =>
        rcases gr2.new p u q with z | z
        · rw [R.sub.none hp] at z; cases z
        · rw [upd_same] at z; cases z
    have np2 : p ∉ g2.as := fun z => by
      rcases gr2.newA p z with q | q
      · exact np q
      · rw [upd_same] at q; cases q
    refine ⟨hp2, (ks.zip vs).map fun q => (Sum.inr q.1, q.2), by simp [kV], by simp; omega, ?_⟩
    have hkeys : (((ks.zip vs).map fun q => ((Sum.inr q.1 : Key), q.2)).map (·.1)) = ks.map Sum.inr := by
      rw [List.map_map]
      show (ks.zip vs).map (fun q => (Sum.inr q.1 : Key)) = _
      rw [← zip_keys (ns := ks) (vs := vs) hlen, List.map_map]
      rw [zip_keys (ns := ks) (vs := vs) hlen]
      rfl
    rw [merge_app (by
      rw [List.nil_append, hkeys]
      exact List.pairwise_map.mpr (List.Pairwise.imp (fun h e => h (by cases e; rfl)) hn)), List.nil_append]
    have hvs : (((ks.zip vs).map fun q => ((Sum.inr q.1 : Key), q.2)).map (·.2)) = vs := by
      rw [List.map_map]
      show (ks.zip vs).map (fun q => q.2) = vs
      rw [show (fun q : Str × V => q.2) = Prod.snd from rfl, List.map_snd_zip (by omega)]
    have hds : ds'.length = vs.length := rvs.1.symm
    have le3 : Le g2 ⟨g2.Fz, g2.as ++ [p], g2.vc⟩ := ⟨fun _ _ h => h, List.prefix_append _ _, fun _ _ h => h⟩
    have cr : CelR F.K F.pa ⟨g2.Fz, g2.as ++ [p], g2.vc⟩ ((ks.zip vs).map fun q => ((Sum.inr q.1 : Key), q.2)) (ks.zip ds') := by
      refine ⟨?_, ?_⟩
      · rw [hkeys, ← zip_keys (ns := ks) (vs := ds') (by omega), List.map_map]
        rw [zip_keys (ns := ks) (vs := ds') (by omega)]
        rfl
      · rw [hvs, show (fun q : Str × D => q.2) = Prod.snd from rfl, List.map_snd_zip (by omega)]
        exact rvs.le le3
    have gr3 := gr0.trans gr2
    refine q ⟨g2.Fz, g2.as ++ [p], g2.vc⟩ _ ⟨gr3.le.trans le3, gr3.new, fun a ha => ?_, fun a u h n t => ?_, fun a u h => ?_⟩ (fun a u h => ?_) ⟨?_, ?_, fun a ha => ?_, fun i a kvs h1 h2 => ?_, fun y d hy => ?_, fun r hr => ?_, R2.sto.cci⟩ _ ?_
    · rcases List.mem_append.mp ha with z | z
      · exact gr3.newA a z
      · have : a = p := by simpa using z
        subst this; exact .inr hp
    · rw [upd_ne (ne_of_none h hp)]; exact gr3.keep a u h n t
    · rw [upd_ne (ne_of_none h hp)]; exact gr3.there a u h
    · rw [upd_ne fun e => by rw [e, z2] at h; cases h]; exact R2.sub a u h
    · simp [R2.sto.len]
    · refine List.nodup_append.mpr ⟨R2.sto.nd, by simp, fun a ha b hb e => ?_⟩
      have : b = p := by simpa using hb
      subst this; subst e; exact np2 ha
    · rcases List.mem_append.mp ha with z | z
      · exact R2.sto.nz a z
      · have : a = p := by simpa using z
        subst this; exact z2
    · by_cases hi : i < g2.as.length
      · have hi2 : i < st2.length := by rw [← R2.sto.len]; exact hi
        have h1 : (g2.as ++ [p])[i]? = some a := h1
        rw [List.getElem?_append_left hi] at h1
        rw [List.getElem?_append_left hi2] at h2
        obtain ⟨ps, z, c⟩ := R2.sto.at_ i a kvs h1 h2
        exact ⟨ps, by rw [upd_ne fun e => np2 (by rw [← e]; exact List.mem_of_getElem? h1)]; exact z, c.le le3⟩
      · have h1 : (g2.as ++ [p])[i]? = some a := h1
        have hi' : i = g2.as.length := by
          have := (List.getElem?_eq_some_iff.mp h1).1
          simp at this; omega
        subst hi'
        rw [List.getElem?_append_right (Nat.le_refl _)] at h1
        rw [R2.sto.len, List.getElem?_append_right (Nat.le_refl _)] at h2
        simp at h1 h2
        subst h1; subst h2
        exact ⟨_, upd_same, cr⟩
    · obtain ⟨c, v, ob, h1, h2, h3⟩ := R2.sto.amb y d hy
      exact ⟨c, v, ob, h1, h2, h3.le le3⟩
    · obtain ⟨h0, ps, h1, h2, h3⟩ := R2.sto.tabs r hr
      exact ⟨h0, ps, by rw [upd_ne fun e => by rw [e, hp2] at h1; cases h1]; exact h1, h2, h3⟩
    · refine .cel ?_
      show (g2.as ++ [p])[st2.length]? = some p
      rw [← R2.sto.len, List.getElem?_append_right (Nat.le_refl _)]
      simp
end
end Dn

set_option Elab.async false
set_option linter.all false
set_option maxRecDepth 100000
set_option maxHeartbeats 4000000
/-! Den, part S: a def by its body; a law's end. -/
namespace Dn
open PySem PySem.Spec PyProof.Rows L2 LamX

/-- a def keeps what its body computes -/
theorem fnG_of {P : Program} {w : World} {K : PySem.W.Frag} {mg : Str → Option Value} {base : Heap} {k : Nat} {pa : PAd} {exF : List (List Str)} {x qual : Str} {params : Arguments} {body : List Stmt} {scope : Scope} {dvs : List V} {kws : List (Str × V)} {f : Addr} {fd : FuncData} {N ps : List Str} {ss : SS}
    (F : FunD K x qual params body scope dvs kws f fd) (S : FnScope N ps scope)
    (hbody : ∀ (cdv : Value) (A : Around) (outer : List PySem.Env) (s : Shared) (H : Hp) (E : XK) (g : Gh), Room k (A.deeper (envOfC qual scope s.heap.objs.size f cdv)) → A.guards = some [] →
      PSs (cxOf (L2.CX P w) P w K mg base N qual scope f cdv A outer s H E) body (tS ⟨K, pa, exF, g, H, fun cls dx _ H' => E cls dx H', none⟩ ss)) :
    FnG P w K mg base (L2.CX P w) (k + 1) f fd ps (spD K pa exF ps.length (runF N ss)) := by
  obtain ⟨oc, od, dV, kV, doc, pm, an, cdv, ct, osl, rfl, lk, hcd, _, _⟩ := F.ex
  refine ⟨fun vs H Q E h => ?_, fun A outer s H args us vs Q E hr hgd e0 hb r h => ?_⟩
  · obtain ⟨g, ds, st, _, _, _, hl, _⟩ := h
    exact hl
  · obtain ⟨g, ds, st, sb, so, rvs, hl, p⟩ := h
    exact run_ofS lk hcd S hr e0 hb r hl fun hr' => ⟨_, hbody cdv A outer s H E g hr' hgd, g, startE N ds, st, start_rel sb so rvs, runF_post p⟩
/-- .. and may be called by its name -/
structure Def (P : Program) (w : World) (K : PySem.W.Frag) (mg : Str → Option Value) (base : Heap) (k : Nat) (pa : PAd) (exF : List (List Str)) (x : Str) (n : Nat) (h : List D → M RV) : Prop where
  ex : ∃ (f : Addr) (fd : FuncData) (ps : List Str), ps.length = n ∧ FnG P w K mg base (L2.CX P w) k f fd ps (spD K pa exF n h) ∧ mg x = some (.ref f) ∧ PySem.W.keepIn K (.ref f) = true ∧ Binds K fd ps []
structure DefA (P : Program) (w : World) (K : PySem.W.Frag) (mg : Str → Option Value) (base : Heap) (k : Nat) (pa : PAd) (exF : List (List Str)) (x : Str) (n : Nat) (h : List (Str × D) → List D → M RV) : Prop where
  ex : ∃ (f : Addr) (fd : FuncData) (ps : List Str), ps.length = n ∧ (∀ m, FnG P w K mg base (L2.CX P w) k f fd ps (spD K (pa.am m) exF n (h m))) ∧ mg x = some (.ref f) ∧ PySem.W.keepIn K (.ref f) = true ∧ Binds K fd ps []
theorem DefA.at {P : Program} {w : World} {K : PySem.W.Frag} {mg : Str → Option Value} {base : Heap} {k : Nat} {pa : PAd} {exF : List (List Str)} {x : Str} {n : Nat} {h : List (Str × D) → List D → M RV} (d : DefA P w K mg base k pa exF x n h) (m : List (Str × D)) : Def P w K mg base k (pa.am m) exF x n (h m) := by
  obtain ⟨f, fd, ps, hl, G, hm, hk, hb⟩ := d.ex
  exact ⟨f, fd, ps, hl, G m, hm, hk, hb⟩
/-- a mirror that promises nothing: any def keeps it -/
theorem fnG_stuck {P : Program} {w : World} {K : PySem.W.Frag} {mg : Str → Option Value} {base : Heap} {pa : PAd} {exF : List (List Str)} {k : Nat} {f : Addr} {fd : FuncData} {ps : List Str} :
    FnG P w K mg base (L2.CX P w) k f fd ps (spD K pa exF ps.length (fun _ => stuck)) where
  len := by
    intro vs H Q E q
    obtain ⟨_, _, _, _, _, _, hl, _⟩ := q
    exact hl
  run := by
    intro _ _ _ _ _ _ _ _ _ _ _ _ _ _ q
    obtain ⟨_, _, _, _, _, _, _, z⟩ := q
    exact absurd z (by intro z; exact z)
theorem FnG.mono {P : Program} {w : World} {K : PySem.W.Frag} {mg : Str → Option Value} {base : Heap} {CX : CXT} {j k : Nat} {f : Addr} {fd : FuncData} {ps : List Str} {sp : Sp} (F : FnG P w K mg base CX j f fd ps sp) (h : j ≤ k) : FnG P w K mg base CX k f fd ps sp :=
  ⟨F.len, fun A outer s H args us vs Q E hr => F.run A outer s H args us vs Q E (hr.mono h)⟩
section
variable {F : Fm} {X : Cx} {j k n : Nat} {x : Str} {p pos : Pos} {e : Expr} {es : List Expr}
theorem pe_def {h : List D → M RV} {fs : Ev → M (List D)} (hK : X.K = F.K) (Df : Def X.prog X.w X.K X.mg X.base j F.pa F.exF x n h) (hr : Room k X.A) (hj : j ≤ k) (hgd : X.A.guards = some []) (tk : Takes X F.W) (hg : Gl X x) (hp : ∀ e' ∈ e :: es, plainE e' = true) (ha : PA X (e :: es) (tA F fs)) (hdb : (x == ("__debug__" : Str)) = false) :
    PE X (.Call (.Name x p) (e :: es) [] pos) (tR F (callE n h fs)) := by
  obtain ⟨f, fd, ps, hl, G, hm, hk, hb⟩ := Df.ex
  rw [hK] at G
  exact pe_callE hK (by rw [hK]; exact G) (hr.mono hj) hgd hg hm hk hb tk hp ha hdb
theorem pe_def0 {h : List D → M RV} (hK : X.K = F.K) (Df : Def X.prog X.w X.K X.mg X.base j F.pa F.exF x n h) (hr : Room k X.A) (hj : j ≤ k) (hgd : X.A.guards = some []) (tk : Takes X F.W) (hg : Gl X x) (hdb : (x == ("__debug__" : Str)) = false) :
    PE X (.Call (.Name x p) [] [] pos) (tR F (callE n h aN)) := by
  obtain ⟨f, fd, ps, hl, G, hm, hk, hb⟩ := Df.ex
  rw [hK] at G
  exact pe_callE0 hK (by rw [hK]; exact G) (hr.mono hj) hgd hg hm hk hb tk hdb
/-- a def that calls lambdas, called from where they were made -/
theorem pe_defA {h : List (Str × D) → List D → M RV} {fs : Ev → M (List D)} {L : List (Str × Nat)} (hK : X.K = F.K) (hcc : F.pa.cc = X.env.cells) (hamb : F.pa.amb = []) (hfn : ∀ y, X.fn y = true) (hN : X.N.Nodup) (hL : ∀ q ∈ L, X.N[q.2]? = some q.1 ∧ X.env.kindOf q.1 = some .cell)
    (Df : DefA X.prog X.w X.K X.mg X.base j F.pa F.exF x n h) (hr : Room k X.A) (hj : j ≤ k) (hgd : X.A.guards = some []) (hg : Gl X x) (hp : ∀ e' ∈ e :: es, plainE e' = true) (ha : PA X (e :: es) (tA F fs)) (hdb : (x == ("__debug__" : Str)) = false) :
    PE X (.Call (.Name x p) (e :: es) [] pos) (tR F (callA L n h fs)) := by
  obtain ⟨f, fd, ps, hl, G, hm, hk, hb⟩ := Df.ex
  exact pe_callA hK hcc hamb hfn hN hL (fun m => by rw [← hK]; exact G m) (hr.mono hj) hgd hg hm hk hb hp ha hdb
end
/-- law_call with tables: cs, the code objects and their tables -/
theorem law_callG {P : Program} {w : World} {K : PySem.W.Frag} {mg mb : Str → Option Value} {CX : CXT} {k : Nat} {fa a : Addr} {cs : List (Addr × Addr)} {fd : FuncData} {x : Str} {sp : Sp} {s₁ : Shared} {vs : List Value} {ns : List Int}
    (KX : K.In s₁.heap) (hns : s₁.heap.Ns mainGlobals mg) (hb : s₁.heap.Ns builtinsNs mb) (hbb : ∀ x : Str, x ≠ "__name__" → mb x = bootBuiltins x) (hlim : s₁.heap.NoLimit) (hg : s₁.gens = #[])
    (hT : ∀ p ∈ cs, s₁.heap.get? p.2 = some { cls := .none, data := .fields #[] }) (nT : ∀ p ∈ cs, K.lookup p.2 = none) (C : ∀ p ∈ cs, PySem.W.CodeHd s₁.heap p.1 p.2)
    (hbm : ∃ (bm : Addr) (ob : Obj), mg "__builtins__" = some (.ref bm) ∧ bm ≠ builtinsNs ∧ s₁.heap.get? bm = some ob ∧ ob.cls = .type "module" ∧ ob.dict = some builtinsNs ∧ ob.data = .plain)
    (ha : s₁.heap.get? a = some { cls := .type "list", data := .seq vs.toArray }) (hi : IntsAre vs ns) (hl : ns.length ≤ sizeLine) (hr : Room k callerA)
    (F : ∀ base : Heap, K.In base → base.Ns mainGlobals mg → (∀ p ∈ cs, TabB base mg p.1 p.2) → FnG P w K mg base CX k fa fd [x] sp) (hbind : ∀ (s : Shared) (u : Value), BindsTo s fd ⟨[u], []⟩ [(x, u)])
    (hsp : ∀ H : Hp, (∀ p ∈ cs, H p.2 = some (.tbl #[])) → SqL K H a (ns.map V.int) → sp [.ref a] H (fun v _ => v = .bl true) fun _ _ _ => False)
    (hCX : ∀ H e s', CX [] H s₁ (fun _ _ _ => False) e s' → False) :
    codeAny (model P w) callerA (.call (.ref fa) ⟨[.ref a], []⟩) (fun r s' => r = .ok (.ret (.bool true)) ∧ OldK s₁.heap s'.heap ∧ s'.os = s₁.os ∧ AllBare s'.gens) s₁ := by
  have rv := vals_ints hi
  have lenV := hi.length
  have isT : ∀ b : Addr, b ∈ cs.map (·.2) → s₁.heap.get? b = some { cls := .none, data := .fields #[] } := fun b hb => by
    obtain ⟨p, hp, e⟩ := List.mem_map.mp hb
    rw [← e]
    exact hT p hp
  have aT : a ∉ cs.map (·.2) := fun z => by
    have q := isT a z
    rw [ha] at q
    have z' : Data.seq vs.toArray _ = Data.fields #[] := congrArg Obj.data (Option.some.inj q)
    cases z'
  have memT : ∀ p ∈ cs, p.2 ∈ cs.map (·.2) := fun p hp => List.mem_map.mpr ⟨p, hp, rfl⟩
  -- from an abstract heap in which nothing but the script and the tables may be tracked
  have core : ∀ H : Hp, (∀ p ∈ cs, H p.2 = some (.tbl #[])) → (∀ b, H b = none ∨ b ∈ cs.map (·.2) ∨ ∃ o xs, H b = some (.frz o (.lst xs))) → SqL K H a (ns.map V.int) → HOk P w H s₁.heap → (∀ b, H b ≠ none → b = a ∨ b ∈ cs.map (·.2)) → (H a ≠ none → K.lookup a = none) →
      codeAny (model P w) callerA (.call (.ref fa) ⟨[.ref a], []⟩) (fun r s' => r = .ok (.ret (.bool true)) ∧ OldK s₁.heap s'.heap ∧ s'.os = s₁.os ∧ AllBare s'.gens) s₁ := by
    intro H hH hO hS hok hA hK
    have base_of : ∀ {b : Addr} {o : Obj}, s₁.heap.get? b = some o → H b = none → (hidT s₁.heap H).get? b = some o := fun e n => hidT_get e n
    have noD : ∀ {b : Addr} {o : Obj}, s₁.heap.get? b = some o → (∀ vs n, o.data ≠ .seq vs n) → o.data ≠ .fields #[] → H b = none := fun {b o} e h1 h2 => by
      cases q : H b with
      | none => rfl
      | some u =>
        rcases hA b (by rw [q]; simp) with e' | e'
        · rw [e', ha] at e
          cases e
          exact (h1 _ _ rfl).elim
        · rw [isT b e'] at e
          cases e
          exact (h2 rfl).elim
    have noA : ∀ {b : Addr} {o : Obj} {es : Array DictEntry} {ep : Nat}, s₁.heap.get? b = some o → o.data = .dict es ep → H b = none := fun {b o es ep} e d => by
      refine noD e (fun vs n z => ?_) fun z => ?_
      · rw [d] at z
        cases z
      · rw [d] at z
        cases z
    have nsK : ∀ {b : Addr} {m : Str → Option Value}, s₁.heap.Ns b m → (hidT s₁.heap H).Ns b m := fun {b m} ⟨o, es, ep, e, d, r⟩ => ⟨o, es, ep, base_of e (noA e d), d, r⟩
    have hKb : K.In (hidT s₁.heap H) := fun b o e => base_of (KX b o e) (by
      cases q : H b with
      | none => rfl
      | some u =>
        rcases hA b (by rw [q]; simp) with e' | e'
        · rw [e'] at e q
          rw [hK (by rw [q]; simp)] at e
          cases e
        · obtain ⟨p, hp, ep⟩ := List.mem_map.mp e'
          rw [← ep, nT p hp] at e
          cases e)
    have hM : L2.Mod K mg (hidT s₁.heap H) := ⟨hKb, nsK hns, ⟨mb, nsK hb, hbb⟩, let ⟨mc, h1, h2⟩ := hlim; ⟨mc, nsK h1, h2⟩⟩
    have TB : ∀ p ∈ cs, TabB (hidT s₁.heap H) mg p.1 p.2 := fun p hp => by
      have hTp := hT p hp
      refine ⟨?_, ?_, fun z => ?_⟩
      · obtain ⟨o, us, file, tf, flags, tg, inF, text, tt, e1, r1, r2, r3, r4, r5, r6, r7, r8, hne⟩ := C p hp
        refine ⟨o, us, file, tf, flags, tg, inF, text, tt, base_of e1 (noD e1 (fun vs n z => ?_) fun z => ?_), r1, r2, r3, r4, r5, r6, r7, r8, hne⟩
        · rw [r2] at z
          cases z
        · rw [r2] at z
          cases z
          simp at r3
      · obtain ⟨bm, ob, b1, b2, b3, b4, b5, b6⟩ := hbm
        have nG : bm ≠ mainGlobals := fun q => by
          obtain ⟨o, es, ep, e, hd, _⟩ := hns
          rw [q, e] at b3
          cases b3
          rw [hd] at b6
          cases b6
        have nP : bm ≠ p.2 := fun q => by
          rw [q, hTp] at b3
          cases b3
          cases b6
        refine ⟨bm, ob, b1, b2, nG, nP, base_of b3 (noD b3 (fun vs n z => ?_) fun z => ?_), b4, b5, b6⟩
        · rw [b6] at z
          cases z
        · rw [b6] at z
          cases z
      · obtain ⟨o, es, ep, e, hd, _⟩ := hns
        rw [z, hTp] at e
        cases e
        cases hd
    have e0 : Env0 P w K mg (hidT s₁.heap H) callerA [] s₁ H := ⟨rfl, hM, fun b o e => of_hidT e, Nat.le_of_eq (hidT_size _ _), trivial, fun b hb => absurd (show b ∈ ([] : List Addr) from hb) (by simp), hok, .of_eq hg⟩
    refine codeAny_mono ((F _ hKb (nsK hns) TB).run callerA [] s₁ H ⟨[.ref a], []⟩ [.ref a] [.ref a] _ _ hr rfl e0 (hbind s₁ (.ref a)) (.cons rfl .nil) (hsp H hH hS)) fun r s' h => ?_
    cases r with
    | error e => exact (hCX H e s' h).elim
    | ok fl =>
      cases fl with
      | next => exact False.elim h
      | brk => exact False.elim h
      | cont => exact False.elim h
      | ret u =>
        obtain ⟨v, H', os, bare, un, hok', r', q⟩ := h
        have q' : v = .bl true := q
        subst q'
        obtain rfl : u = Value.bool true := r'
        have key : ∀ b o, b ∉ cs.map (·.2) → s₁.heap.get? b = some o → s'.heap.get? b = some o := fun b o nb e => by
          cases q : H b with
          | none => exact un.keep b o e q (by intro z; exact absurd (show b ∈ ([] : List Addr) from z) (by simp)) (by simp)
          | some u =>
            rcases hO b with z | z | ⟨ob, xs, z⟩
            · rw [q] at z; cases z
            · exact absurd z nb
            · have z2 := un.frzs b ob _ z
              obtain ⟨e1, _⟩ := hok b _ z
              obtain ⟨e2, _⟩ := hok' b _ z2
              rw [e] at e1; cases e1
              exact e2
        have grown : ∀ p ∈ cs, ∃ more : Array Value, s'.heap.get? p.2 = some { cls := .none, data := .fields more } := fun p hp => by
          obtain ⟨more, z⟩ := un.tbls p.2 #[] (hH p hp)
          exact ⟨_, hok' p.2 _ z⟩
        refine ⟨rfl, ⟨fun b o e => ?_, fun b o e => ?_⟩, os, bare⟩
        · by_cases hb : b ∈ cs.map (·.2)
          · obtain ⟨p, hp, ep⟩ := List.mem_map.mp hb
            obtain ⟨more, hm⟩ := grown p hp
            rw [← ep] at e ⊢
            rw [hT p hp] at e
            cases e
            exact .inr (.inl ⟨((C p hp).tab (hT p hp)).isCodeTable, rfl, #[], more, rfl, by rw [Array.empty_append]; exact hm⟩)
          · exact .inl (key b o hb e)
        · by_cases hb : b ∈ cs.map (·.2)
          · obtain ⟨p, hp, ep⟩ := List.mem_map.mp hb
            obtain ⟨more, hm⟩ := grown p hp
            rw [← ep]
            exact ⟨_, hm⟩
          · exact ⟨o, key b o hb e⟩
  cases hk : K.lookup a with
  | some o =>
    have e := KX a o hk
    rw [ha] at e
    cases e
    refine core (fun b => if b ∈ cs.map (·.2) then some (.tbl #[]) else none) (fun p hp => if_pos (memT p hp)) (fun b => ?_) (.inr ⟨_, vs.toArray, _, hk, rfl, rfl, rfl, by rw [List.size_toArray, lenV]; exact hl, by simpa using rv⟩) (fun b u z => ?_) (fun b z => ?_) fun z => absurd (show (if a ∈ cs.map (·.2) then some (HO.tbl #[]) else none) = none from if_neg aT) z
    · by_cases hb : b ∈ cs.map (·.2)
      · exact .inr (.inl hb)
      · exact .inl (if_neg hb)
    · by_cases hb : b ∈ cs.map (·.2)
      · have z' := (if_pos hb).symm.trans z
        cases z'
        exact isT b hb
      · have z' := (if_neg hb).symm.trans z
        cases z'
    · by_cases hb : b ∈ cs.map (·.2)
      · exact .inr hb
      · exact absurd (if_neg hb) z
  | none =>
    refine core (fun b => if b = a then some (.frz { cls := .type "list", data := .seq vs.toArray } (.lst (ns.map V.int))) else if b ∈ cs.map (·.2) then some (.tbl #[]) else none) (fun p hp => (if_neg (show ¬ p.2 = a from fun z => aT (by rw [← z]; exact memT p hp))).trans (if_pos (memT p hp))) (fun b => ?_)
      (.inl (.inr ⟨{ cls := .type "list", data := .seq vs.toArray }, if_pos rfl⟩)) (fun b u z => ?_) (fun b z => ?_) fun _ => hk
    · by_cases hb : b = a
      · exact .inr (.inr ⟨_, _, if_pos hb⟩)
      · by_cases hb2 : b ∈ cs.map (·.2)
        · exact .inr (.inl hb2)
        · exact .inl ((if_neg hb).trans (if_neg hb2))
    · by_cases hb : b = a
      · have z' := (if_pos hb).symm.trans z
        cases z'
        rw [hb]
        exact ⟨ha, by rw [List.length_map]; exact hl, vs, _, rv, ha⟩
      · have z1 := (if_neg hb).symm.trans z
        by_cases hb2 : b ∈ cs.map (·.2)
        · have z' := (if_pos hb2).symm.trans z1
          cases z'
          exact isT b hb2
        · have z' := (if_neg hb2).symm.trans z1
          cases z'
    · by_cases hb : b = a
      · exact .inl hb
      · by_cases hb2 : b ∈ cs.map (·.2)
        · exact .inr hb2
        · exact absurd ((if_neg hb).trans (if_neg hb2)) z
/-- what is known of the law's promise at the head's heap h -/
def LawAtG (l : PySem.W.OpenLaw) (w : World) (K : PySem.W.Frag) (CX : CXT) (k n : Nat) (x : Str) (mg : Str → Option Value) (fa : Addr) (h : Heap) : Prop :=
  ∃ (fd : FuncData) (cs : List (Addr × Addr)) (sp : Sp), (∀ p ∈ cs, h.get? p.2 = some { cls := .none, data := .fields #[] }) ∧ (∀ p ∈ cs, K.lookup p.2 = none) ∧ (∀ p ∈ cs, PySem.W.CodeHd h p.1 p.2) ∧ (∀ (s : Shared) (u : Value), BindsTo s fd ⟨[u], []⟩ [(x, u)]) ∧
    (∀ (H : Hp) (a : Addr) (ns : List Int), ns.length ≤ n → (∀ z ∈ ns, Builtin.Int.intBits z ≤ 1048576) → (∀ p ∈ cs, H p.2 = some (.tbl #[])) → SqL K H a (ns.map V.int) → sp [.ref a] H (fun v _ => v = .bl true) fun _ _ _ => False) ∧
    ∀ base : Heap, K.In base → base.Ns mainGlobals mg → (∀ p ∈ cs, TabB base mg p.1 p.2) → FnG l.prog w K mg base CX k fa fd [x] sp
theorem walk_ofG {l : PySem.W.OpenLaw} {n k : Nat} {q : Program} {loose : List Str} {XP : (Str → Option Value) → Heap → Prop} {YP : World → Heap → Prop} {d : DefRec} {CX : World → CXT} {x : Str}
    (hn : l.most = some n) (hn2 : n ≤ sizeLine) (hdf : d.params.defaults = []) (hr : Room k callerA)
    (F : ∀ (w : World) (mg : Str → Option Value) (fa : Addr) (h : Heap), YP w h → h.Ns mainGlobals mg → mg d.name = some (.ref fa) → ∃ K : PySem.W.Frag, K.In h ∧ LawAtG l w K (CX w) k n x mg fa h)
    (hCX : ∀ (w : World) (H : Hp) (s : Shared) (e : Value) (s' : Shared), CX w [] H s (fun _ _ _ => False) e s' → False) :
    PySem.W.WalkO q loose XP YP l.row.toRowW d [] (fun f vs => PySem.call f vs) := by
  refine Att.attach_callB hn hdf fun w s₀ s₁ mg mb fa o pm cd doc a vs ns G Y ho hd hcd hmg hobj hints hlen hbits hg => ?_
  obtain ⟨K, KX, fd, cs, sp, hT, nT, C, hb, hsp, hF⟩ := F w mg fa _ Y G.T.g hmg
  exact law_callG KX G.T.g G.T.b G.T.builtins G.T.nolimit hg hT nT C G.T.bmain hobj hints (Nat.le_trans hlen hn2) hr hF hb (fun H hH hS => hsp H a ns hlen hbits hH hS) fun H e s' => hCX w H s₁ e s'
/-! ### the law -/
theorem cells_apart : ∀ (names : List (Str × NameKind)) (n : Nat) (acc : List (Str × Addr)), (∀ p ∈ acc, p.2 < n) → acc.Pairwise (fun x y => x.2 ≠ y.2) → (cellsFrom n names acc).Pairwise fun x y => x.2 ≠ y.2
  | [], _, _, _, h => h
  | (name, kind) :: r, n, acc, h1, h2 => by
    unfold cellsFrom
    split
    · refine cells_apart r (n + 1) _ (fun p hp => ?_) (List.pairwise_cons.mpr ⟨fun p hp e => ?_, h2⟩)
      · rcases List.mem_cons.mp hp with e | hp
        · rw [e]; exact Nat.lt_succ_self n
        · exact Nat.lt_succ_of_lt (h1 p hp)
      · have := h1 p hp
        have e : n = p.2 := e
        rw [← e] at this
        exact Nat.lt_irrefl _ this
    · exact cells_apart r n acc h1 h2
def spL (n : Nat) (ts : List Addr) (K : PySem.W.Frag) : Sp := fun vs H Q _ => ∃ (a : Addr) (ns : List Int), vs = [.ref a] ∧ ns.length ≤ n ∧ (∀ z ∈ ns, Builtin.Int.intBits z ≤ 1048576) ∧ (∀ P ∈ ts, H P = some (.tbl #[])) ∧ SqL K H a (ns.map V.int) ∧ ∀ H', Q (.bl true) H'
theorem rep_ints {K : PySem.W.Frag} {pa : PAd} {g : Gh} : ∀ (ns : List Int), RepVs K pa g (ns.map V.int) (ns.map D.int)
  | [] => RepVs.nil
  | n :: ns => .cons (.int n) (rep_ints ns)
abbrev PAd.made (pa : PAd) (cc : List (Str × Addr)) : PAd := { pa with cc := cc, amb := [] }
theorem law_fn {P : Program} {w : World} {K : PySem.W.Frag} {mg : Str → Option Value} {base : Heap} {k n : Nat} {pa : PAd} {exF : List (List Str)} {x qual : Str} {params : Arguments} {body : List Stmt} {scope : Scope} {dvs : List V} {kws : List (Str × V)} {fd : FuncData} {N : List Str} {y : Str} {ss : SS} {p : He.Defn} {ts : List Addr}
    (F : FunD K x qual params body scope dvs kws (He.fAd K p) fd) (S : FnScope N [y] scope) (hts : ∀ q ∈ pa.tb, q.1 ∈ ts) (hsem : ∀ ns : List Int, ns.length ≤ n → (∀ z ∈ ns, Builtin.Int.intBits z ≤ 1048576) → ∃ st, runF N ss [.scr (ns.map D.int)] [] = .ok (.val (.bl true)) st)
    (hbody : ∀ (A : Around) (outer : List PySem.Env) (s : Shared) (H : Hp) (E : XK) (g : Gh), Room k (A.deeper (envOfC qual scope s.heap.objs.size (He.fAd K p) (.ref (He.codeOf K p)))) → A.guards = some [] →
      PSs (cxOf (L2.CX P w) P w K mg base N qual scope (He.fAd K p) (.ref (He.codeOf K p)) A outer s H E) body (tS ⟨K, pa.made (cellsFrom (s.heap.objs.size + 1) scope.names []), exF, g, H, fun cls dx _ H' => E cls dx H', none⟩ ss)) :
    FnG P w K mg base (L2.CX P w) (k + 1) (He.fAd K p) fd [y] (spL n ts K) := by
  obtain ⟨oc, od, dV, kV, doc, pm, an, cdv, ct, osl, rfl, lk, hcd, _, _⟩ := F.ex
  obtain ⟨c, rfl⟩ := He.codeIn_ref hcd
  have ec := He.codeOf_eq lk rfl
  refine ⟨fun vs H Q E h => ?_, fun A outer s H args us vs Q E hr hgd e0 hb r h => ?_⟩
  · obtain ⟨a, ns, rfl, _⟩ := h
    rfl
  · obtain ⟨a, ns, rfl, hln, hbt, hT, hS, hQ⟩ := h
    let pa' := pa.made (cellsFrom (s.heap.objs.size + 1) scope.names [])
    have cci : ∀ x y c, pa'.cc.lookup x = some c → pa'.cc.lookup y = some c → x = y := fun x y c h1 h2 => name_of_addr (cells_apart scope.names (s.heap.objs.size + 1) [] (by simp) List.Pairwise.nil) (PySem.mem_of_lookup h1) (PySem.mem_of_lookup h2)
    -- what stands at the entry
    have hg : ∃ Fz : Hp, (∀ b o, Fz b = some o → H b = some o) ∧ SqL K Fz a (ns.map V.int) ∧ ∀ P ∈ ts, Fz P = none := by
      rcases hS with (hS | ⟨o, hS⟩) | hS
      · refine ⟨fun b => if b = a then H a else none, fun b o e => ?_, .inl (.inl (by simpa using hS)), fun P hP => ?_⟩
        · by_cases e1 : b = a
          · subst e1; simpa using e
          · simp [e1] at e
        · have : P ≠ a := fun e => by have := hT P hP; rw [e, hS] at this; cases this
          simp [this]
      · refine ⟨fun b => if b = a then H a else none, fun b o e => ?_, .inl (.inr ⟨o, by simpa using hS⟩), fun P hP => ?_⟩
        · by_cases e1 : b = a
          · subst e1; simpa using e
          · simp [e1] at e
        · have : P ≠ a := fun e => by have := hT P hP; rw [e, hS] at this; cases this
          simp [this]
      · exact ⟨fun _ => none, fun b o e => (by cases e), .inr hS, fun _ _ => rfl⟩
    obtain ⟨Fz, f1, f2, f3⟩ := hg
    have so : StoR K pa' ⟨Fz, [], fun _ => none⟩ H [] := ⟨rfl, List.nodup_nil, fun a ha => (by cases ha), fun i a kvs h1 => (by simp at h1), fun y d hy => (by cases hy), fun q hq => ⟨f3 _ (hts q hq), #[], hT _ (hts q hq), True.intro, fun pos cv hc => (by simp [codeAmong] at hc)⟩, cci⟩
    refine run_ofS lk hcd S hr e0 hb r rfl fun hr' => ?_
    rw [← ec] at hr' ⊢
    refine ⟨_, hbody A outer s H E ⟨Fz, [], fun _ => none⟩ hr' hgd, ⟨Fz, [], fun _ => none⟩, startE N [.scr (ns.map D.int)], [], start_rel f1 so (.cons (.scr f2 (by simp) (rep_ints ns).2) .nil), ?_⟩
    refine runF_post ?_
    obtain ⟨st, hst⟩ := hsem ns hln hbt
    rw [hst]
    intro g' H' gr sb so v rv
    have : RepV K pa' g' v (.bl true) := rv
    rw [this.bl_inv]
    exact hQ H'
end Dn

set_option Elab.async false
set_option linter.all false
set_option maxRecDepth 100000
set_option maxHeartbeats 4000000
/-! Den, part T: the rules in short. -/
namespace Dn
open PySem PySem.Spec PyProof.Rows L2

structure Ctx (F : Fm) (X : Cx) (k : Nat) : Prop where
  K : X.K = F.K
  hr : Room k X.A
  gd : X.A.guards = some []
  tk : Takes X F.W
  calm : X.calm = true
  nd : X.N.Nodup
  sm : SmK X.K
theorem takes_no {X : Cx} : Takes X (fun _ _ _ _ => False) := fun _ _ ⟨_, _, _, _, _, _, _, _, _, _, _, _, _, _, _, _, w⟩ => w.elim
section
variable {F : Fm} {X : Cx} {k : Nat}
theorem Ctx.blk (C : Ctx F X k) (s : Shared) (H : Hp) (scope : Scope) (env : PySem.Env) (fp : List Addr) : Ctx F.calmW (X.blk s H scope env fp) k := ⟨C.K, C.hr, C.gd, takes_no, C.calm, C.nd, C.sm⟩
theorem Ctx.tr (C : Ctx F X k) {W : WX} {pn : List (Addr × Obj)} {xe : Value → Shared → Prop} (tk : Takes (X.tr pn xe) W) : Ctx { F with W := W } (X.tr pn xe) k := ⟨C.K, C.hr, C.gd, tk, C.calm, C.nd, C.sm⟩
theorem Ctx.u1 (C : Ctx F X k) : X.A.units + 1 < cLine := by have := C.hr.un; omega
theorem Ctx.u64 (C : Ctx F X k) : X.A.units + 64 < cLine := by have := C.hr.un; omega
theorem Ctx.u66 (C : Ctx F X k) : X.A.units + 66 < cLine := by have := C.hr.un; omega
end
theorem ctx_fn {P : Program} {w : World} {K : PySem.W.Frag} {mg : Str → Option Value} {base : Heap} {N : List Str} {qual : Str} {scope : Scope} {f : Addr} {cd : Value} {A : Around} {outer : List PySem.Env} {s : Shared} {H : Hp} {E : XK} {pa : PAd} {exF : List (List Str)} {g : Gh} {k : Nat}
    (hr : Room k (A.deeper (envOfC qual scope s.heap.objs.size f cd))) (hgd : A.guards = some []) (hN : N.Nodup) (sm : SmK K) : Ctx ⟨K, pa, exF, g, H, fun cls dx _ H' => E cls dx H', none⟩ (cxOf (L2.CX P w) P w K mg base N qual scope f cd A outer s H E) k :=
  ⟨rfl, hr, hgd, takes_of rfl rfl rfl rfl, rfl, hN, sm⟩
theorem ctx_lam {P : Program} {w : World} {K : PySem.W.Frag} {mg : Str → Option Value} {base : Heap} {N : List Str} {q : Str} {sc : Scope} {f c' : Addr} {cl : List (Str × Addr)} {A : Around} {outer : List PySem.Env} {s : Shared} {H : Hp} {E : XK} {pa : PAd} {exF : List (List Str)} {g : Gh} {k : Nat}
    (hr : Room k (A.deeper (lamEnv2 q sc s.heap.objs.size f c' cl))) (hgd : A.guards = some []) (hN : N.Nodup) (sm : SmK K) : Ctx ⟨K, pa, exF, g, H, fun cls dx _ H' => E cls dx H', none⟩ (lamCx2 P w K mg base N q sc A outer s H E f c' cl) k :=
  ⟨rfl, hr, hgd, takes_of rfl rfl rfl rfl, rfl, hN, sm⟩
section
variable {F : Fm} {X : Cx} {k : Nat} {a b c e : Expr} {es rest : List Expr} {pos p p2 : Pos} {x : Str} {fa fb fc f f' : Ev → M D} {r r' : Ev → M RV} {t t' : Ev → M Bool} {fs : Ev → M (List D)}
/-! names, constants -/
theorem nE (i : Nat) (hN : X.N[i]? = some x := by rfl) (hv : Vis X.env.scope x := by first | exact Or.inl rfl | exact Or.inr (Or.inl rfl) | exact Or.inr (Or.inr rfl)) (hd : (x == ("__debug__" : Str)) = false := by decide) (hcd : (x == ("__classdict__" : Str)) = false := by decide) : PE X (.Name x pos) (tE F (vr i)) := pe_vr hN hv hd hcd
theorem nQ (i : Nat) (hN : X.N[i]? = some x := by rfl) (hv : Vis X.env.scope x := by first | exact Or.inl rfl | exact Or.inr (Or.inl rfl) | exact Or.inr (Or.inr rfl)) (hd : (x == ("__debug__" : Str)) = false := by decide) (hcd : (x == ("__classdict__" : Str)) = false := by decide) : PE X (.Name x pos) (tQ F (vq i)) := pe_vq hN hv hd hcd
theorem kI {n : Int} {j : Nat} : PE X (.Constant (.int n) j pos) (tE F (kk (.int n))) := pe_kk pe_int fun _ => .int n
theorem kS {z : Str} {j : Nat} : PE X (.Constant (.str z) j pos) (tE F (kk (.str z))) := pe_kk pe_str fun _ => .str z
theorem kB {z : Bool} {j : Nat} : PE X (.Constant (.bool z) j pos) (tE F (kk (.bl z))) := pe_kk pe_bl fun _ => .bl z
theorem kN {j : Nat} : PE X (.Constant .none j pos) (tE F (kk .non)) := pe_kk pe_non fun _ => .non
/-! a module's number, text, read in a def -/
theorem kgI {i : Int} (hm : ∃ t, X.mg x = some (.int i t)) (hg : Gl X x := by rfl) (hd : (x == ("__debug__" : Str)) = false := by decide) : PE X (.Name x pos) (tE F (kk (.int i))) := by
  obtain ⟨t, e⟩ := hm
  exact pe_kk (pe_glob (v := .int i) hg e ⟨t, rfl⟩ hd) fun _ => .int i
theorem kgS {z : Str} (hm : ∃ t, X.mg x = some (.str z t)) (hg : Gl X x := by rfl) (hd : (x == ("__debug__" : Str)) = false := by decide) : PE X (.Name x pos) (tE F (kk (.str z))) := by
  obtain ⟨t, e⟩ := hm
  exact pe_kk (pe_glob (v := .str z) hg e ⟨t, rfl⟩ hd) fun _ => .str z
/-! operations -/
def BinR (X : Cx) (F : Fm) (op : Operator) (h : D → D → M RV) : Prop := ∃ r, OpR X (binaryOp op) r ∧ Ok2 F r h
def CmpR (X : Cx) (F : Fm) (op : CmpOp) (h : D → D → M RV) : Prop := ∃ r, OpR X (compareOp op) r ∧ Ok2 F r h
abbrev ltM := cmpI fun i j => decide (i < j)
abbrev leM := cmpI fun i j => decide (i ≤ j)
abbrev gtM := cmpI fun i j => decide (j < i)
abbrev geM := cmpI fun i j => decide (j ≤ i)
theorem bAdd (C : Ctx F X k) : BinR X F .Add addM := ⟨_, op_addA, by rw [C.K]; exact ok_add⟩
theorem bMul (C : Ctx F X k) : BinR X F .Mult mulM := ⟨_, op_mulA, by rw [C.K]; exact ok_mul⟩
theorem bSub : BinR X F .Sub subM := ⟨_, op_sub, ok_sub⟩
theorem bDiv : BinR X F .FloorDiv divM := ⟨_, op_fdivZ, ok_div⟩
theorem bMod : BinR X F .Mod modM := ⟨_, op_modN, ok_mod⟩
theorem bPow : BinR X F .Pow powM := ⟨_, op_pow, ok_pow⟩
theorem cEq (C : Ctx F X k) : CmpR X F .Eq eqM := ⟨_, op_eqA C.u64, by rw [C.K]; exact ok_eq⟩
theorem cNe (C : Ctx F X k) : CmpR X F .NotEq neM := ⟨_, op_neA C.u64, by rw [C.K]; exact ok_ne⟩
theorem cLt : CmpR X F .Lt ltM := ⟨_, op_lt, ok_cmpI _⟩
theorem cLe : CmpR X F .LtE leM := ⟨_, op_le, ok_cmpI _⟩
theorem cGt : CmpR X F .Gt gtM := ⟨_, op_gt, ok_cmpI _⟩
theorem cGe : CmpR X F .GtE geM := ⟨_, op_ge, ok_cmpI _⟩
theorem cIs : CmpR X F .Is isM := ⟨_, op_isA, ok_is⟩
theorem cIsn : CmpR X F .IsNot isnM := ⟨_, op_isnA, ok_isn⟩
theorem Ctx.u65 (C : Ctx F X k) : X.A.units + 65 < cLine := by have := C.u66; omega
theorem cIn (C : Ctx F X k) : CmpR X F .In (inM false) := ⟨_, op_inA C.u65, by rw [C.K]; exact ok_in false⟩
theorem cNin (C : Ctx F X k) : CmpR X F .NotIn (inM true) := ⟨_, op_ninA C.u65, by rw [C.K]; exact ok_in true⟩
theorem bin {op : Operator} {h : D → D → M RV} (o : BinR X F op h) (pa : PE X a (tQ F fa)) (pb : PE X b (tQ F fb)) : PE X (.BinOp a op b pos) (tR F (op2 h fa fb)) := let ⟨_, h1, h2⟩ := o; pe_op2 h1 h2 pa pb
theorem cmp {op : CmpOp} {h : D → D → M RV} (o : CmpR X F op h) (pa : PE X a (tQ F fa)) (pb : PE X b (tQ F fb)) (hm : behindInMarks op b = false := by rfl) : PE X (.Compare a [op] [b] pos) (tR F (op2 h fa fb)) := let ⟨_, h1, h2⟩ := o; pe_cmp2 h1 h2 hm pa pb
theorem tcmp {op : CmpOp} {h : D → D → M RV} (o : CmpR X F op h) (pa : PE X a (tQ F fa)) (pb : PE X b (tQ F fb)) (hm : behindInMarks op b = false := by rfl) : PT X (.Compare a [op] [b] pos) (tT F (tstE (op2 h fa fb))) := let ⟨_, h1, h2⟩ := o; pt_cmp2 h1 h2 hm pa pb
theorem chR {op op' : CmpOp} {h h' : D → D → M RV} (o : CmpR X F op h) (o' : CmpR X F op' h') (pa : PE X a (tQ F fa)) (pb : PE X b (tQ F fb)) (pc : PE X c (tQ F fc)) (hm : lastMarks [op, op'] [b, c] = false := by rfl) : PE X (.Compare a [op, op'] [b, c] pos) (tR F (chn h h' fa fb fc)) :=
  let ⟨_, h1, h2⟩ := o; let ⟨_, h3, h4⟩ := o'; pe_chn h1 h3 h2 h4 pa pb pc hm
theorem chT {op op' : CmpOp} {h h' : D → D → M RV} (o : CmpR X F op h) (o' : CmpR X F op' h') (pa : PE X a (tQ F fa)) (pb : PE X b (tQ F fb)) (pc : PE X c (tQ F fc)) (hm : lastMarks [op, op'] [b, c] = false := by rfl) : PT X (.Compare a [op, op'] [b, c] pos) (tT F (tstE (chn h h' fa fb fc))) :=
  let ⟨_, h1, h2⟩ := o; let ⟨_, h3, h4⟩ := o'; pt_chn h1 h3 h2 h4 pa pb pc hm
theorem uNeg (pa : PE X a (tQ F fa)) : PE X (.UnaryOp .USub a pos) (tR F (op1 negM fa)) := pe_op1 un_neg ok_neg pa
theorem uNot (C : Ctx F X k) (pa : PE X a (tQ F fa)) : PE X (.UnaryOp .Not a pos) (tR F (op1 notM fa)) := pe_op1 un_not (by rw [C.K]; exact ok_not) pa
/-! tests -/
theorem tru (C : Ctx F X k) (pa : PE X a (tQ F fa)) (hs : plainT a = true := by rfl) : PT X a (tT F (truE fa)) := pt_tru C.K hs pa
theorem tNot (p : PT X a (tT F t)) : PT X (.UnaryOp .Not a pos) (tT F (notT t)) := pt_notT p
theorem wA1 (p : PT X a (tT F t)) : PW X (.BoolOp .And [a] pos) (tT F t) := pw_and1 p
theorem wO1 (p : PT X a (tT F t)) : PW X (.BoolOp .Or [a] pos) (tT F t) := pw_or1 p
theorem wA (p : PT X a (tT F t)) (r : PW X (.BoolOp .And (b :: rest) pos) (tT F t')) : PW X (.BoolOp .And (a :: b :: rest) pos) (tT F (andT t t')) := pw_andT p r
theorem wO (p : PT X a (tT F t)) (r : PW X (.BoolOp .Or (b :: rest) pos) (tT F t')) : PW X (.BoolOp .Or (a :: b :: rest) pos) (tT F (orT t t')) := pw_orT p r
/-! values -/
theorem vA (C : Ctx F X k) (p : PE X a (tE F f)) (r : PE X (.BoolOp .And (b :: rest) pos) (tE F f')) : PE X (.BoolOp .And (a :: b :: rest) pos) (tE F (andD f f')) := pe_andD C.K p r
theorem vO (C : Ctx F X k) (p : PE X a (tE F f)) (r : PE X (.BoolOp .Or (b :: rest) pos) (tE F f')) : PE X (.BoolOp .Or (a :: b :: rest) pos) (tE F (orD f f')) := pe_orD C.K p r
theorem vA1 (p : PE X a (tE F f)) : PE X (.BoolOp .And [a] pos) (tE F f) := ⟨fun pins s σ H Q I h => show wpAny _ _ (eval a X.env) _ _ _ from p.run pins s σ H Q I h⟩
theorem vO1 (p : PE X a (tE F f)) : PE X (.BoolOp .Or [a] pos) (tE F f) := ⟨fun pins s σ H Q I h => show wpAny _ _ (eval a X.env) _ _ _ from p.run pins s σ H Q I h⟩
theorem ite (pt : PT X c (tT F t)) (pa : PE X a (tR F r)) (pb : PE X b (tR F r')) : PE X (.IfExp c a b pos) (tR F (ifR t r r')) := pe_ifR pt pa pb
theorem ix (C : Ctx F X k) (pa : PE X a (tQ F fa)) (pb : PE X b (tQ F fb)) (hs : plainS b = true := by rfl) : PE X (.Subscript a b pos) (tR F (op2 ixM fa fb)) := pe_ix2 C.K hs pa pb
theorem dget (C : Ctx F X k) {z : Str} {j : Nat} (pa : PE X a (tE F f)) : PE X (.Subscript a (.Constant (.str z) j p2) pos) (tE F (getE z f)) := pe_getE C.u1 pa
theorem aCC (pe : PE X e (tE F f)) (r : PA X es (tA F fs)) (h : plainE e = true := by rfl) : PA X (e :: es) (tA F (aC f fs)) := pa_C h pe r
/-! calls of built-ins -/
theorem fLen (hm : X.mg "len" = none) (pe : PE X e (tQ F f)) (C : Ctx F X k) (hg : Gl X "len" := by rfl) (hp : plainE e = true := by rfl) : PE X (.Call (.Name "len" p) [e] [] pos) (tR F (op1 lenM f)) := pe_bi1 call_len (by rw [C.K]; exact ok_len) hg hm boot_len (by decide) (by decide) hp pe
theorem fAbs (hm : X.mg "abs" = none) (pe : PE X e (tQ F f)) (hg : Gl X "abs" := by rfl) (hp : plainE e = true := by rfl) : PE X (.Call (.Name "abs" p) [e] [] pos) (tR F (op1 absM f)) := pe_bi1 call_abs ok_abs hg hm (by decide +kernel) (by decide) (by decide) hp pe
theorem fInt (hm : X.mg "int" = none) (pe : PE X e (tQ F f)) (hg : Gl X "int" := by rfl) (hp : plainE e = true := by rfl) : PE X (.Call (.Name "int" p) [e] [] pos) (tR F (op1 intM f)) := pe_ty1 call_int1 ok_int hg hm (by decide +kernel) (by decide) (by decide) hp pe
theorem fList (hm : X.mg "list" = none) (pe : PE X e (tQ F f)) (C : Ctx F X k) (hg : Gl X "list" := by rfl) (hp : plainE e = true := by rfl) : PE X (.Call (.Name "list" p) [e] [] pos) (tR F (op1 listM f)) := pe_ty1 call_list_of (by rw [C.K]; exact ok_list) hg hm (by decide +kernel) (by decide) (by decide) hp pe
theorem fTuple (hm : X.mg "tuple" = none) (pe : PE X e (tQ F f)) (C : Ctx F X k) (hg : Gl X "tuple" := by rfl) (hp : plainE e = true := by rfl) : PE X (.Call (.Name "tuple" p) [e] [] pos) (tR F (op1 tupleM f)) := pe_ty1 call_tuple_of (by rw [C.K]; exact ok_tuple) hg hm (by decide +kernel) (by decide) (by decide) hp pe
theorem fAll (hm : X.mg "all" = none) (pe : PE X e (tQ F f)) (C : Ctx F X k) (hg : Gl X "all" := by rfl) (hp : plainE e = true := by rfl) : PE X (.Call (.Name "all" p) [e] [] pos) (tR F (op1 allM f)) := pe_bi1 (cr_all C.calm) (by rw [C.K]; exact ok_all) hg hm (by decide +kernel) (by decide) (by decide) hp pe
theorem fAny (hm : X.mg "any" = none) (pe : PE X e (tQ F f)) (C : Ctx F X k) (hg : Gl X "any" := by rfl) (hp : plainE e = true := by rfl) : PE X (.Call (.Name "any" p) [e] [] pos) (tR F (op1 anyM f)) := pe_bi1 (cr_any C.calm) (by rw [C.K]; exact ok_any) hg hm (by decide +kernel) (by decide) (by decide) hp pe
theorem fSum (hm : X.mg "sum" = none) (pe : PE X e (tQ F f)) (C : Ctx F X k) (hg : Gl X "sum" := by rfl) (hp : plainE e = true := by rfl) : PE X (.Call (.Name "sum" p) [e] [] pos) (tR F (op1 sumM f)) := pe_bi1 (cr_sum C.calm) (by rw [C.K]; exact ok_sum) hg hm (by decide +kernel) (by decide) (by decide) hp pe
theorem fRepr (hm : X.mg "repr" = none) (pe : PE X e (tQ F f)) (C : Ctx F X k) (hg : Gl X "repr" := by rfl) (hp : plainE e = true := by rfl) : PE X (.Call (.Name "repr" p) [e] [] pos) (tR F (op1 reprM f)) := pe_bi1 (cr_repr C.gd C.u66 C.sm) (by rw [C.K]; exact ok_repr) hg hm (by decide +kernel) (by decide) (by decide) hp pe
theorem fGcd (hm : X.mg "gcd" = some (.builtin "math.gcd")) (pe : PE X e (tQ F f)) (pe' : PE X a (tQ F f')) (hg : Gl X "gcd" := by rfl) (hp : plainE e = true := by rfl) (hp' : plainE a = true := by rfl) : PE X (.Call (.Name "gcd" p) [e, a] [] pos) (tR F (op2 gcdM f f')) := pe_im2 cr_gcd ok_gcd hg hm (by decide) hp hp' pe pe'
theorem fMax (hm : X.mg "max" = none) (pe : PE X e (tQ F f)) (pe' : PE X a (tQ F f')) (C : Ctx F X k) (hg : Gl X "max" := by rfl) (hp : plainE e = true := by rfl) (hp' : plainE a = true := by rfl) : PE X (.Call (.Name "max" p) [e, a] [] pos) (tR F (op2 maxM f f')) := pe_bi2 (call_max2 C.calm) ok_max hg hm (by decide +kernel) (by decide) (by decide) hp hp' pe pe'
theorem fMin (hm : X.mg "min" = none) (pe : PE X e (tQ F f)) (pe' : PE X a (tQ F f')) (C : Ctx F X k) (hg : Gl X "min" := by rfl) (hp : plainE e = true := by rfl) (hp' : plainE a = true := by rfl) : PE X (.Call (.Name "min" p) [e, a] [] pos) (tR F (op2 minM f f')) := pe_bi2 (call_min2 C.calm) ok_min hg hm (by decide +kernel) (by decide) (by decide) hp hp' pe pe'
theorem tyN {id : String} (hm : X.mg x = none) (hv : bootBuiltins x = some (.type id)) (hg : Gl X x := by rfl) (hn : x ≠ "__name__" := by decide) (hd : (x == ("__debug__" : Str)) = false := by decide) : PE X (.Name x pos) (tC (.ty id)) := pe_bltn hg hm hv rfl hn hd
theorem fIs1 (C : Ctx F X k) {id : String} {T : Str} (hm : X.mg "isinstance" = none) (hT : PE X (.Name T p2) (tC (.ty id))) (pe : PE X e (tQ F f)) (hg : Gl X "isinstance" := by rfl) (hp : plainE e = true := by rfl) : PE X (.Call (.Name "isinstance" p) [e, .Name T p2] [] pos) (tR F (op1 (isaM [id]) f)) := pe_isa1 C.K hg hm hT hp pe
theorem tys2 {id1 id2 : String} (h1 : PE X a (tC (.ty id1))) (h2 : PE X b (tC (.ty id2))) (p1 : plainE a = true := by rfl) (p2 : plainE b = true := by rfl) : PA X [a, b] (fun _ H Q => Q ([id1, id2].map V.ty) H) := pa2 p1 p2 h1 h2
theorem fIsT (C : Ctx F X k) {ts : List String} {tes : List Expr} {kt : Nat} (hm : X.mg "isinstance" = none) (hT : PA X tes (fun _ H Q => Q (ts.map V.ty) H)) (pe : PE X e (tQ F f)) (hl : ts.length ≤ 8 := by decide) (hg : Gl X "isinstance" := by rfl) (hp : plainE e = true := by rfl) : PE X (.Call (.Name "isinstance" p) [e, .Tuple tes kt p2] [] pos) (tR F (op1 (isaM ts) f)) := pe_isaT C.K hl hg hm hT hp pe
theorem fBits {apos : Pos} (pe : PE X e (tQ F f)) (hb : attributeBase e "bit_length" X.env (eval e X.env) = eval e X.env := by rfl) (hl : (apos.endLine == pos.line) = true := by rfl) : PE X (.Call (.Attribute e "bit_length" apos) [] [] pos) (tR F (op1 bitsM f)) := pe_bitsE hb hl pe
/-! calls of defs -/
def plainEs (es : List Expr) : Bool := es.all plainE
theorem plainEs_at (h : plainEs es = true) : ∀ e ∈ es, plainE e = true := fun e he => List.all_eq_true.mp h e he
theorem fD (C : Ctx F X k) {j n : Nat} {h : List D → M RV} (Df : Def X.prog X.w X.K X.mg X.base j F.pa F.exF x n h) (ha : PA X (e :: es) (tA F fs)) (hj : j ≤ k := by decide) (hg : Gl X x := by rfl) (hp : plainEs (e :: es) = true := by rfl) (hd : (x == ("__debug__" : Str)) = false := by decide) : PE X (.Call (.Name x p) (e :: es) [] pos) (tR F (callE n h fs)) :=
  pe_def C.K Df C.hr hj C.gd C.tk hg (plainEs_at hp) ha hd
theorem fD0 (C : Ctx F X k) {j n : Nat} {h : List D → M RV} (Df : Def X.prog X.w X.K X.mg X.base j F.pa F.exF x n h) (hj : j ≤ k := by decide) (hg : Gl X x := by rfl) (hd : (x == ("__debug__" : Str)) = false := by decide) : PE X (.Call (.Name x p) [] [] pos) (tR F (callE n h aN)) :=
  pe_def0 C.K Df C.hr hj C.gd C.tk hg hd
/-! statements -/
variable {s : Stmt} {ss sr sb : List Stmt} {u v : SS}
theorem z0 : PSs X [] (tS F sNil) := PSs.mono (fun _ _ _ q => sNil_mono q) pss_nil
theorem zC (h : PS X s (tS F u)) (h2 : PSs X sr (tS F v)) : PSs X (s :: sr) (tS F (sSeq u v)) := PSs.mono (fun _ _ _ q => sSeq_mono q) (pss_cons h h2)
theorem z1 (h : PS X s (tS F u)) : PSs X [s] (tS F u) := pss_one h
theorem zF (is : List Nat) (h : PS X s (tS F u)) : PS X s (tS F (sFrz is u)) := ps_frz h
theorem zSet (C : Ctx F X k) (i : Nat) (pe : PE X e (tR F r)) (hi : X.N[i]? = some x := by rfl) (hx : Loc X.env.scope x := by first | exact Or.inl rfl | exact Or.inr rfl) (hs : swapsWith e (some (.Name x p2)) pos.line X.env = pure false := by rfl) (hf : X.fn x = true ∨ X.env.scope.names.lookup x = some .local := by first | exact .inl rfl | exact .inr rfl) :
    PS X (.Assign [.Name x p2] e pos) (tS F (sSet i r)) := PS.mono (fun _ _ _ q => sSet_mono (fun _ _ _ q => q) q) (ps_set C.nd hi hx pe hs hf)
theorem zTg (C : Ctx F X k) (T : Tg) {tg : Expr} (ht : TgOk X tg T) (pe : PE X e (tE F f)) (hs : swapsWithSole [tg] e pos.line X.env = pure false := by rfl) (hw : swappedStores [tg] e X.env = pure none := by rfl) (h1 : (assignEach [tg] X.env).map (·.2) = [assign tg X.env] := by rfl) :
    PS X (.Assign [tg] e pos) (tS F (sTg T f)) := by
  refine PS.mono (fun _ _ _ q => ?_) (ps_asg pe (pg_T C.calm C.nd ht) hs hw h1)
  rw [C.K]
  exact sTg_mono (fun _ _ _ q => q) q
theorem zPar (C : Ctx F X k) (i j : Nat) {y : Str} {px py pt pt2 : Pos} {kt k2 : Nat} (pa : PE X a (tE F fa)) (pb : PE X b (tE F fb)) (hi : X.N[i]? = some x := by rfl) (hj : X.N[j]? = some y := by rfl) (hij : i ≠ j := by decide) (hx : X.env.scope.names.lookup x = some .local := by rfl) (hy : X.env.scope.names.lookup y = some .local := by rfl)
    (h1 : plainE a = true := by rfl) (h2 : plainE b = true := by rfl) (hw : swappedStores [.Tuple [.Name x px, .Name y py] kt pt] (.Tuple [a, b] k2 pt2) X.env = pure (some [x, y]) := by rfl) (hs : swapsWithSole [.Tuple [.Name x px, .Name y py] kt pt] (.Tuple [a, b] k2 pt2) pos.line X.env = pure false := by rfl) :
    PS X (.Assign [.Tuple [.Name x px, .Name y py] kt pt] (.Tuple [a, b] k2 pt2) pos) (tS F (sPar i j fa fb)) :=
  PS.mono (fun _ _ _ q => sPar_mono q) (ps_par C.calm C.nd hi hj hij hx hy (pa2 h1 h2 pa pb) hw hs)
theorem zPut (C : Ctx F X k) {z : Str} {j : Nat} {p3 p4 : Pos} (pd : PE X a (tE F f)) (pv : PE X e (tE F f')) (hs : swapsWith e (some (.Subscript a (.Constant (.str z) j p3) p4)) pos.line X.env = pure false := by rfl) :
    PS X (.Assign [.Subscript a (.Constant (.str z) j p3) p4] e pos) (tS F (sPut z f f')) := PS.mono (fun _ _ _ q => sPut_mono q) (ps_dput C.u1 pd pe_str pv hs)
theorem zExp (pe : PE X e (tR F r)) (hs : swapsWith e none pos.line X.env = pure false := by rfl) : PS X (.Expr e pos) (tS F (sExp r)) := PS.mono (fun _ _ _ q => sExp_mono (fun _ _ _ q => q) q) (ps_expr pe hs)
theorem zApp (C : Ctx F X k) (i : Nat) {apos cpos : Pos} (pe : PE X e (tE F f)) (hN : X.N[i]? = some x := by rfl) (hv : Vis X.env.scope x := by first | exact Or.inl rfl | exact Or.inr (Or.inl rfl) | exact Or.inr (Or.inr rfl)) (hd : (x == ("__debug__" : Str)) = false := by decide) (hcd : (x == ("__classdict__" : Str)) = false := by decide) (hp : plainE e = true := by rfl)
    (hbase : attributeBase (.Name x p2) "append" X.env (eval (.Name x p2) X.env) = eval (.Name x p2) X.env := by rfl) (hfew : ((backTo cpos (starEach [e] X.env)).all (fun x => !x.1) && (backToKw cpos (keywordEach [] X.env)).all (fun x => x.1.isSome) && decide ([e].length + ([] : List Keyword).length + (if ([] : List Keyword).isEmpty then 0 else 1) < 30)) = true := by rfl)
    (hline : (apos.endLine == cpos.line) = true := by rfl) (hs : swapsWith (.Call (.Attribute (.Name x p2) "append" apos) [e] [] cpos) none pos.line X.env = pure false := by rfl) : PS X (.Expr (.Call (.Attribute (.Name x p2) "append" apos) [e] [] cpos) pos) (tS F (sApp i f)) :=
  PS.mono (fun _ _ _ q => sApp_mono C.K q) (ps_expr (pe_bm PySem.F.plainAttrs_list PySem.F.slot_list_append PySem.F.type_list_append mt_append (pe_var hN hv hd hcd) (pa1 hp pe) hbase hfew hline (star_cons hp X.env) rfl) hs)
theorem zRet (pe : PE X e (tR F r)) : PS X (.Return (some e) pos) (tS F (sRet r)) := PS.mono (fun _ _ _ q => sRet_mono (fun _ _ _ q => q) q) (ps_ret pe)
theorem zRetO (i : Nat) (hN : X.N[i]? = some x := by rfl) (hv : Vis X.env.scope x := by first | exact Or.inl rfl | exact Or.inr (Or.inl rfl) | exact Or.inr (Or.inr rfl)) (hd : (x == ("__debug__" : Str)) = false := by decide) (hcd : (x == ("__classdict__" : Str)) = false := by decide) : PS X (.Return (some (.Name x p2)) pos) (tS F (sRetO i)) :=
  PS.mono (fun _ _ _ q => sRetO_mono q) (ps_ret (pe_var hN hv hd hcd))
theorem zRetN : PS X (.Return none pos) (tS F sRetN) := PS.mono (fun _ _ _ q => sRetN_mono q) ps_retN
theorem zBrk : PS X (.Break pos) (tS F sBrk) := PS.mono (fun _ _ _ q => sBrk_mono q) ps_break
theorem zCt : PS X (.Continue pos) (tS F sCt) := PS.mono (fun _ _ _ q => sCt_mono q) ps_continue
theorem zPass : PS X (.Pass pos) (tS F sNil) := PS.mono (fun _ _ _ q => sNil_mono q) ps_pass
theorem zIf (pt : PT X c (tT F t)) (ha : PSs X ss (tS F u)) (hb : PSs X sr (tS F v)) : PS X (.If c ss sr pos) (tS F (sIf t u v)) := PS.mono (fun _ _ _ q => sIf_mono q) (ps_if pt ha hb)
theorem zFor (C : Ctx F X k) (po : PassesOwn (model X.prog X.w) X.A X.env X.xe) (T : Tg) {tg iter : Expr} {q : Ev → M (List D)} (it : ItE F X false tg iter q) (ht : TgOk X tg T) (hb : PSs X sb (tS F u)) (hs : ∀ x, foldedSetIterable iter X.env x = pure x := by intro _; rfl) : PS X (.For tg iter sb [] pos) (tS F (sFor q T u)) := by
  obtain ⟨wi, hpi, hw⟩ := it.ex
  refine PS.mono (fun _ _ _ q => ?_) (ps_for po C.calm hpi (pg_T C.calm C.nd ht) hb hs)
  rw [C.K]
  exact sFor_mono hw q
theorem zWh (po : PassesOwn (model X.prog X.w) X.A X.env X.xe) (n : Nat) (pt : PT X c (tT F t)) (hb : PSs X sb (tS F u)) : PS X (.While c sb [] pos) (tS F (whM t u n)) := PS.mono (fun _ _ _ q => whM_mono q) (ps_while po pt hb)
theorem gN (i : Nat) (hi : X.N[i]? = some x := by rfl) (hx : Loc X.env.scope x := by first | exact Or.inl rfl | exact Or.inr rfl) (hf : X.fn x = true ∨ X.env.scope.names.lookup x = some .local := by first | exact .inl rfl | exact .inr rfl) : TgOk X (.Name x p) (.nm i) := ⟨x, p, rfl, hi, hx, hf⟩
theorem gT2 (i j : Nat) {y : Str} {kt : Nat} {p3 : Pos} (hi : X.N[i]? = some x := by rfl) (hj : X.N[j]? = some y := by rfl) (hx : Loc X.env.scope x := by first | exact Or.inl rfl | exact Or.inr rfl) (hy : Loc X.env.scope y := by first | exact Or.inl rfl | exact Or.inr rfl) (hf : X.fn x = true ∨ X.env.scope.names.lookup x = some .local := by first | exact .inl rfl | exact .inr rfl) (hf' : X.fn y = true ∨ X.env.scope.names.lookup y = some .local := by first | exact .inl rfl | exact .inr rfl) :
    TgOk X (.Tuple [.Name x p, .Name y p2] kt p3) (.tp [i, j]) := by
  refine ⟨_, _, _, rfl, rfl, fun n m e h1 h2 => ?_⟩
  match n, h1, h2 with
  | 0, h1, h2 => cases h1; cases h2; exact ⟨x, p, rfl, hi, hx, hf⟩
  | 1, h1, h2 => cases h1; cases h2; exact ⟨y, p2, rfl, hj, hy, hf'⟩
theorem lcR (C : Ctx F X k) {tg iter elt : Expr} {scope : Scope} {own : List (Str × Nat)} {q : Ev → M (List D)} {T : Tg} (it : ItE F X true tg iter q) (ok : blkC X.N X.env.scope scope own = true) (hs : ∀ i ∈ T.slots, i ∈ own.map (·.2))
    (B : ∀ (s : Shared) (H : Hp) (env : List (Str × Addr)) (A : Addr) (fp : List Addr), Ctx F.calmW (X.blk s H scope (compEnvC scope env A X.env) fp) k → TgOk (X.blk s H scope (compEnvC scope env A X.env) fp) tg T ∧ PE (X.blk s H scope (compEnvC scope env A X.env) fp) elt (tE F.calmW f))
    (hfs : ∀ x, foldedSetIterable iter X.env x = pure x := by intro _; rfl) : PE X (.ListComp elt [⟨tg, iter, [], 0⟩] scope pos) (tR F (compE q T (fun _ => pure true) f (own.map (·.2)))) :=
  pe_comp C.K C.calm C.nd it (blkOk_by ok) hs ⟨fun s H A cl fp => (B s H cl A fp (C.blk s H scope _ fp)).1, fun s H A cl fp => ⟨fun pins s σ H' Q I h => by
    obtain ⟨g, ρ, st, R, q⟩ := h
    exact pts_nil.run pins s σ H' Q I ((q : Post _ g H' σ ((pure true : M Bool) st) _).pure R.sub R.sto)⟩, fun s H A cl fp => (B s H cl A fp (C.blk s H scope _ fp)).2⟩ hfs
theorem lcIf (C : Ctx F X k) {tg iter elt cond : Expr} {scope : Scope} {own : List (Str × Nat)} {q : Ev → M (List D)} {T : Tg} (it : ItE F X true tg iter q) (ok : blkC X.N X.env.scope scope own = true) (hs : ∀ i ∈ T.slots, i ∈ own.map (·.2))
    (B : ∀ (s : Shared) (H : Hp) (env : List (Str × Addr)) (A : Addr) (fp : List Addr), Ctx F.calmW (X.blk s H scope (compEnvC scope env A X.env) fp) k → TgOk (X.blk s H scope (compEnvC scope env A X.env) fp) tg T ∧ PT (X.blk s H scope (compEnvC scope env A X.env) fp) cond (tT F.calmW t) ∧ PE (X.blk s H scope (compEnvC scope env A X.env) fp) elt (tE F.calmW f))
    (hfs : ∀ x, foldedSetIterable iter X.env x = pure x := by intro _; rfl) : PE X (.ListComp elt [⟨tg, iter, [cond], 0⟩] scope pos) (tR F (compE q T t f (own.map (·.2)))) :=
  pe_comp C.K C.calm C.nd it (blkOk_by ok) hs ⟨fun s H A cl fp => (B s H cl A fp (C.blk s H scope _ fp)).1, fun s H A cl fp => pts_one (B s H cl A fp (C.blk s H scope _ fp)).2.1, fun s H A cl fp => (B s H cl A fp (C.blk s H scope _ fp)).2.2⟩ hfs
/-! a name set to a list comprehension: its list is made inside the statement -/
theorem ps_comp {tg iter elt : Expr} {ifs : List Expr} {scope : Scope} {own : List (Str × Nat)} {q : Ev → M (List D)} {T : Tg} {tt : Ev → M Bool} {i : Nat} {y : Str} {py spos : Pos} (C : Ctx F X k) (hy : X.N[i]? = some y) (hyl : X.env.scope.names.lookup y = some .local)
    (hsw : swapsWith (.ListComp elt [⟨tg, iter, ifs, 0⟩] scope pos) (some (.Name y py)) spos.line X.env = pure true) (it : ItE F X true tg iter q) (ok : BlkOk X.N X.env.scope scope own) (hs : ∀ i ∈ T.slots, i ∈ own.map (·.2)) (B : Blk F X tg elt ifs scope T tt f)
    (hfs : ∀ x, foldedSetIterable iter X.env x = pure x) : PS X (.Assign [.Name y py] (.ListComp elt [⟨tg, iter, ifs, 0⟩] scope pos) spos) (tS F (sSet i (compE q T tt f (own.map (·.2))))) := by
  obtain ⟨wi, hpi, hw⟩ := it.ex
  refine PS.mono (fun _ _ _ h => sSet_mono (fun _ _ _ hq => compE_mono hs hw hq) h) (ps_setLc C.calm C.nd hy hyl hsw hpi ok (fun s H A cl fp => ?_) B.ht B.he hfs)
  have := pg_T (X := X.blk s H scope (compEnvC scope cl A X.env) fp) C.calm C.nd (B.hg s H A cl fp)
  rw [← C.K]
  exact this
theorem zLcR (C : Ctx F X k) (i : Nat) {y : Str} {py spos : Pos} {tg iter elt : Expr} {scope : Scope} {own : List (Str × Nat)} {q : Ev → M (List D)} {T : Tg} (it : ItE F X true tg iter q) (ok : blkC X.N X.env.scope scope own = true) (hs : ∀ i ∈ T.slots, i ∈ own.map (·.2))
    (B : ∀ (s : Shared) (H : Hp) (env : List (Str × Addr)) (A : Addr) (fp : List Addr), Ctx F.calmW (X.blk s H scope (compEnvC scope env A X.env) fp) k → TgOk (X.blk s H scope (compEnvC scope env A X.env) fp) tg T ∧ PE (X.blk s H scope (compEnvC scope env A X.env) fp) elt (tE F.calmW f))
    (hy : X.N[i]? = some y := by rfl) (hyl : X.env.scope.names.lookup y = some .local := by rfl) (hsw : swapsWith (.ListComp elt [⟨tg, iter, [], 0⟩] scope pos) (some (.Name y py)) spos.line X.env = pure true := by rfl)
    (hfs : ∀ x, foldedSetIterable iter X.env x = pure x := by intro _; rfl) : PS X (.Assign [.Name y py] (.ListComp elt [⟨tg, iter, [], 0⟩] scope pos) spos) (tS F (sSet i (compE q T (fun _ => pure true) f (own.map (·.2))))) :=
  ps_comp C hy hyl hsw it (blkOk_by ok) hs ⟨fun s H A cl fp => (B s H cl A fp (C.blk s H scope _ fp)).1, fun s H A cl fp => ⟨fun pins s σ H' Q I h => by
    obtain ⟨g, ρ, st, R, q⟩ := h
    exact pts_nil.run pins s σ H' Q I ((q : Post _ g H' σ ((pure true : M Bool) st) _).pure R.sub R.sto)⟩, fun s H A cl fp => (B s H cl A fp (C.blk s H scope _ fp)).2⟩ hfs
theorem zLcIf (C : Ctx F X k) (i : Nat) {y : Str} {py spos : Pos} {tg iter elt cond : Expr} {scope : Scope} {own : List (Str × Nat)} {q : Ev → M (List D)} {T : Tg} (it : ItE F X true tg iter q) (ok : blkC X.N X.env.scope scope own = true) (hs : ∀ i ∈ T.slots, i ∈ own.map (·.2))
    (B : ∀ (s : Shared) (H : Hp) (env : List (Str × Addr)) (A : Addr) (fp : List Addr), Ctx F.calmW (X.blk s H scope (compEnvC scope env A X.env) fp) k → TgOk (X.blk s H scope (compEnvC scope env A X.env) fp) tg T ∧ PT (X.blk s H scope (compEnvC scope env A X.env) fp) cond (tT F.calmW t) ∧ PE (X.blk s H scope (compEnvC scope env A X.env) fp) elt (tE F.calmW f))
    (hy : X.N[i]? = some y := by rfl) (hyl : X.env.scope.names.lookup y = some .local := by rfl) (hsw : swapsWith (.ListComp elt [⟨tg, iter, [cond], 0⟩] scope pos) (some (.Name y py)) spos.line X.env = pure true := by rfl)
    (hfs : ∀ x, foldedSetIterable iter X.env x = pure x := by intro _; rfl) : PS X (.Assign [.Name y py] (.ListComp elt [⟨tg, iter, [cond], 0⟩] scope pos) spos) (tS F (sSet i (compE q T t f (own.map (·.2))))) :=
  ps_comp C hy hyl hsw it (blkOk_by ok) hs ⟨fun s H A cl fp => (B s H cl A fp (C.blk s H scope _ fp)).1, fun s H A cl fp => pts_one (B s H cl A fp (C.blk s H scope _ fp)).2.1, fun s H A cl fp => (B s H cl A fp (C.blk s H scope _ fp)).2.2⟩ hfs
end
end Dn

set_option Elab.async false
set_option linter.all false
set_option maxRecDepth 100000
/-! a module's own value (a tuple that stands in the heap ahead of the call), read in a def -/
namespace Dn
open PySem PySem.Spec PyProof.Rows L2
/-- K knows the value v, and it is worth d -/
def konB (K : PySem.W.Frag) : Nat → Value → D → Bool
  | 0, _, _ => false
  | n + 1, v, d => match d, v with
    | .non, .none => true
    | .bl b, .bool c => decide (b = c)
    | .int i, .int j _ => decide (i = j)
    | .str x, .str y _ => decide (x = y)
    | .tup l, .ref a => match K.lookup a with
      | some o => match o.data with
        | .seq its _ => decide (o.cls = .type "tuple") && (decide (its.size ≤ sizeLine) && (decide (its.toList.length = l.length) && (its.toList.zip l).all fun p => konB K n p.1 p.2))
        | _ => false
      | none => false
    | _, _ => false
theorem kons_of {K : PySem.W.Frag} {pa : PAd} {B : Value → D → Bool} (hB : ∀ v d, B v d = true → ∃ x, RelV x v ∧ ∀ g, RepV K pa g x d) : ∀ (vs : List Value) (l : List D), vs.length = l.length → ((vs.zip l).all fun p => B p.1 p.2) = true →
    ∃ xs, Vals xs vs ∧ ∀ g, RepVs K pa g xs l
  | [], [], _, _ => ⟨[], .nil, fun g => .nil⟩
  | v :: vs, d :: l, hl, h => by
    rw [List.zip_cons_cons, List.all_cons] at h
    have ⟨h1, h2⟩ := Bool.and_eq_true_iff.mp h
    have ⟨x, r, rx⟩ := hB v d h1
    have ⟨xs, rs, rxs⟩ := kons_of hB vs l (Nat.succ.inj hl) h2
    exact ⟨x :: xs, .cons r rs, fun g => .cons (rx g) (rxs g)⟩
theorem konB_ok {K : PySem.W.Frag} {pa : PAd} : ∀ (n : Nat) (v : Value) (d : D), konB K n v d = true → ∃ x, RelV x v ∧ ∀ g, RepV K pa g x d
  | 0, _, _, h => by cases h
  | n + 1, v, d, h => by
    unfold konB at h
    split at h
    · exact ⟨.non, rfl, fun _ => .non⟩
    · cases of_decide_eq_true h
      exact ⟨.bl _, rfl, fun _ => .bl _⟩
    · cases of_decide_eq_true h
      exact ⟨.int _, ⟨_, rfl⟩, fun _ => .int _⟩
    · cases of_decide_eq_true h
      exact ⟨.str _, ⟨_, rfl⟩, fun _ => .str _⟩
    · rename_i l a
      split at h
      · rename_i o ho
        split at h
        · rename_i its m hd
          have ⟨h1, h⟩ := Bool.and_eq_true_iff.mp h
          have ⟨h2, h⟩ := Bool.and_eq_true_iff.mp h
          have ⟨h3, h⟩ := Bool.and_eq_true_iff.mp h
          have ⟨xs, rs, rxs⟩ := kons_of (K := K) (pa := pa) (fun v d q => konB_ok n v d q) its.toList l (of_decide_eq_true h3) h
          exact ⟨.ref a, rfl, fun g => .tup (.inr ⟨o, its, m, ho, of_decide_eq_true h1, hd, of_decide_eq_true h2, rs⟩) (rxs g).1 (rxs g).2⟩
        · cases h
      · cases h
    · cases h
/-- .. under the module's name x -/
def gkonB (K : PySem.W.Frag) (x : Str) (d : D) : Bool := match PySem.W.nsIn K mainGlobals x with
  | some (some v) => konB K 8 v d
  | _ => false
theorem gkonB_ok {K : PySem.W.Frag} {pa : PAd} {h : Heap} {mg : Str → Option Value} (X : K.In h) (G : h.Ns mainGlobals mg) {x : Str} {d : D} (c : gkonB K x d = true) : ∃ v u, mg x = some u ∧ RelV v u ∧ ∀ g, RepV K pa g v d := by
  unfold gkonB at c
  split at c
  · rename_i u e
    have ⟨v, r, rv⟩ := konB_ok (pa := pa) 8 u d c
    exact ⟨v, u, PySem.W.mg_of X G e, r, rv⟩
  · cases c
section
variable {F : Fm} {X : Cx} {x : Str} {pos : Pos} {d : D}
theorem kgT (hm : ∃ v u, X.mg x = some u ∧ RelV v u ∧ ∀ g, RepV F.K F.pa g v d) (hg : Gl X x := by rfl) (hd : (x == ("__debug__" : Str)) = false := by decide) : PE X (.Name x pos) (tE F (kk d)) := by
  obtain ⟨v, u, e, r, rv⟩ := hm
  exact pe_kk (pe_glob hg e r hd) rv
end
end Dn

set_option Elab.async false
set_option linter.all false
set_option maxRecDepth 100000
set_option maxHeartbeats 4000000
/-! Den, part U: errors and lambdas in short. -/
namespace Dn
open PySem PySem.Spec PyProof.Rows L2

theorem toFun {K : PySem.W.Frag} {x qual : Str} {st : Stmt} {f : Addr} {fd : FuncData} (F : FunD K x qual (defArgs st) (defBody st) (defScope st) [] [] f fd) : Fun K x qual st f fd := by
  obtain ⟨oc, od, dV, kV, doc, pm, an, cdv, ct, osl, e, lk, hcd, hd, _⟩ := F.ex
  rcases hd with ⟨_, rfl⟩ | ⟨z, _⟩
  · exact ⟨⟨oc, od, kV, doc, pm, an, cdv, ct, osl, e, lk, hcd⟩, F.kp⟩
  · exact (z rfl).elim
/-- an error class that may be raised -/
structure ExcD (P : Program) (w : World) (K : PySem.W.Frag) (mg : Str → Option Value) (base : Heap) (x : Str) (names : List Str) : Prop where
  E : ExcK K x names
  glo : mg x = some (.ref (He.ga K x))
  init : ∃ (fI : Addr) (fd : FuncData), PySem.W.findIn K (.ref (He.ga K x)) "__init__" = some (some (.ref fI)) ∧ PySem.W.typeIn K (.ref fI) = some (.type "function") ∧ FnOk P w K mg base (L2.CX P w) 1 fI fd (("self" : Str) :: names) (spI (He.ga K x) names) ∧ Binds K fd (("self" : Str) :: names) []
theorem excD_of {P : Program} {w : World} {K : PySem.W.Frag} {mg : Str → Option Value} {base : Heap} {x qual : Str} {names : List Str} {st : Stmt} {fd : FuncData} {M : Addr} (E : ExcK K x names) (hm : mg x = some (.ref (He.ga K x))) (F : FunD K "__init__" qual (defArgs st) (defBody st) (defScope st) [] [] (He.ma K (He.ga K x) "__init__") fd)
    (B : BaseC K M) (hM : mg ("MinorError" : Str) = some (.ref M)) (hI : InitB names (defBody st)) (S : FnScope (("self" : Str) :: names) (("self" : Str) :: names) (defScope st)) (hgb : (defScope st).names.lookup ("MinorError" : Str) = some .globalImplicit) (hn : (names.all fun n => !(n == ("__debug__" : Str)) && !(n == ("__classdict__" : Str))) = true) (h1 : 1 ≤ names.length) (h9 : names.length ≤ 800)
    (hb : Binds K fd (("self" : Str) :: names) []) : ExcD P w K mg base x names :=
  ⟨E, hm, _, fd, E.iC, E.tI, ok_init (toFun F) E.T B hM hI S hgb (fun n hn' => by
    have := List.all_eq_true.mp hn n hn'
    simp only [Bool.and_eq_true, Bool.not_eq_true'] at this
    exact ⟨E.no n hn', this.1, this.2⟩) h1 h9, hb⟩
section
variable {F : Fm} {X : Cx} {k : Nat} {e : Expr} {es : List Expr} {p pos pos' : Pos} {x : Str} {fs : Ev → M (List D)}
theorem zRaise (C : Ctx F X k) (i : Nat) {names : List Str} (Ed : ExcD X.prog X.w X.K X.mg X.base x names) (ha : PA X (e :: es) (tA F fs)) (hC : F.pa.exA[i]? = some (He.ga X.K x)) (hF : F.exF[i]? = some names) (hk : 2 ≤ k := by decide) (hg : Gl X x := by rfl) (hp : plainEs (e :: es) = true := by rfl) (hd : (x == ("__debug__" : Str)) = false := by decide) :
    PS X (.Raise (some (.Call (.Name x p) (e :: es) [] pos)) none pos') (tS F (sRaise i names.length fs)) := by
  obtain ⟨fI, fd, h1, h2, h3, h4⟩ := Ed.init
  exact ps_raiseE C.K C.calm C.tk Ed.E.T h1 h2 h3 (C.hr.mono hk) h4 passL hg Ed.glo hC hF (plainEs_at hp) ha hd
theorem zTry (C : Ctx F X k) {n : Str} (sl : Nat) {body : List Stmt} {h₀ : ExceptHandler} {hds : List ExceptHandler} {cl : List (Value × (Nat → Bool) × SS)} {b : SS} (hm : ∀ c ∈ cl, ∀ i C, F.pa.exA[i]? = some C → PySem.W.exmOne X.K (.ref C) c.1 = some (c.2.1 i))
    (hb : ∀ (W : WX) (pn : List (Addr × Obj)) (xe : Value → Shared → Prop), Ctx { F with W := W } (X.tr pn xe) k → PSs (X.tr pn xe) body (tS { F with W := W } b)) (hh : HdsAs X n (h₀ :: hds) (clTs F cl)) (hs : X.stack = X.env :: X.outer := by rfl) (hf : X.env.frame = some X.env.locals := by rfl) (hi : X.N[sl]? = some n := by rfl) (hln : X.env.kindOf n = some .local := by rfl) :
    PS X (.Try body (h₀ :: hds) [] [] pos) (tS F (sTry sl (cl.map (·.2)) b)) :=
  ps_tryE C.K hs hf C.nd hi hln C.tk hm (fun W pn xe tk _ => hb W pn xe (C.tr tk)) hh
theorem exmB_at {K : PySem.W.Frag} {xs : List Str} (h : exmB K xs = true) {pa : PAd} (hA : pa.exA = xs.map (He.ga K)) (j : Nat) (hj : j < xs.length) : ∀ (i : Nat) (C : Addr), pa.exA[i]? = some C → PySem.W.exmOne K (.ref C) (.ref (He.ga K (xs.getD j Str.empty))) = some (decide (i = j)) := fun i C hC => by
  rw [hA, List.getElem?_map] at hC
  cases e : xs[i]? with
  | none => rw [e] at hC; cases hC
  | some y =>
    rw [e] at hC
    cases hC
    have hi := (List.getElem?_eq_some_iff.mp e).1
    have := exmB_ok h hi hj
    rw [show xs.getD i Str.empty = y by rw [List.getD_eq_getElem?_getD, e]; rfl] at this
    exact this
end
/-! ### paths in the text -/
def sVal : Stmt → Expr
  | .Assign _ v _ => v
  | .Expr v _ => v
  | .Return (some v) _ => v
  | .If c _ _ _ => c
  | _ => .Constant .none 0 ⟨0, 0, 0, 0⟩
def sB (i : Nat) : Stmt → Stmt
  | .For _ _ b _ _ => b.getD i (.Pass ⟨0, 0, 0, 0⟩)
  | .While _ b _ _ => b.getD i (.Pass ⟨0, 0, 0, 0⟩)
  | .If _ b _ _ => b.getD i (.Pass ⟨0, 0, 0, 0⟩)
  | s => s
def sO (i : Nat) : Stmt → Stmt
  | .If _ _ b _ => b.getD i (.Pass ⟨0, 0, 0, 0⟩)
  | s => s
def eN (i : Nat) : Expr → Expr
  | .Tuple es _ _ => es.getD i (.Constant .none 0 ⟨0, 0, 0, 0⟩)
  | .List es _ => es.getD i (.Constant .none 0 ⟨0, 0, 0, 0⟩)
  | .Call _ es _ _ => es.getD i (.Constant .none 0 ⟨0, 0, 0, 0⟩)
  | .BoolOp _ es _ => es.getD i (.Constant .none 0 ⟨0, 0, 0, 0⟩)
  | .Compare a _ es _ => (a :: es).getD i (.Constant .none 0 ⟨0, 0, 0, 0⟩)
  | e => e
def lamD (q : Str) : Expr → Str × Arguments × Expr × Scope
  | .Lambda ps b sc _ => (q, ps, b, sc)
  | e => (q, ⟨[], [], none, [], [], none, []⟩, e, ⟨.function, [], false, false, []⟩)
end Dn

set_option Elab.async false
set_option linter.all false
set_option maxRecDepth 100000
set_option maxHeartbeats 4000000
/-! an own error's object that is kept as a value: isinstance of it, a field of it -/
namespace Dn
open PySem PySem.Spec PyProof.Rows PySem.Calls L2
section
variable {prog : Program} {w : World} {A : Around} {E : Value → Shared → Prop} {s : Shared} {K : PySem.W.Frag} {x D : Addr} {ox : Obj}
open PySem.W
/-- x.__class__ of such an object, with a dict or without -/
theorem xo_class {od : Option Obj} {Q : Option Value → Shared → Prop} (T : ExcC K D) (X : K.In s.heap) (I : InstAt s.heap x ox D od) (h : Q (some (.ref D)) { s with toks := s.toks + 1 }) : wpAny (model prog w) A (getAttr? (.ref x) "__class__") Q E s := by
  have hs : (clsIn K D).isSome = true := by
    obtain ⟨cd, hc, _⟩ := any_some T.hd
    rw [hc]; rfl
  have hf : findObj K D od "__class__" = some (.bind (.builtin "getset_descriptor.__get__") (.builtin "object.__class__")) := by
    cases od with
    | none => exact findObj_dataN hs T.ha T.hn T.ht
    | some o => exact findObj_data hs T.ha T.hn T.ht
  obtain ⟨hp, g, d, t, os⟩ := s
  have L0 := I.type (M := model prog w)
  have L1 := looks_findIn (M := model prog w) X T.hg
  have L2 := looks_findIn (M := model prog w) X T.hk
  have L3 := looks_find (M := model prog w) X I hf
  have sub : Looks (model prog w) hp (isInstance (.ref x) (.type "BaseException")) true := L0.andThen (looks_subIn X T.hs)
  have e2 : (Value.builtin "BaseException.__getattribute__" == Value.builtin "object.__getattribute__") = false := by decide +kernel
  have e1 : (onTheHeap (Value.ref D) && Value.builtin "BaseException.__getattribute__" == Value.builtin "object.__getattribute__") = false := by rw [e2]; rfl
  have e0 : (false && onTheHeap (Value.builtin "BaseException.__getattribute__")) = false := rfl
  unfold getAttr? getAttrBy? getAttrBy
  refine wpAny_bind (wpAny_mkText (wpAny_bind (wpAny_attempt (wpAny_holding (wpAny_bind (L0.at (wpAny_bind (L1.at ?_))))))))
  show wpAny _ _ (if (onTheHeap (Value.ref D) && Value.builtin "BaseException.__getattribute__" == Value.builtin "object.__getattribute__") = true then _ else _) _ _ _
  rw [e1, if_neg Bool.false_ne_true]
  unfold getAttrByItsOwn hookBefore
  refine wpAny_bind ?_
  rw [if_pos (show onTheHeap (Value.ref D) = true from rfl)]
  refine L2.at ?_
  refine wpAny_bind (wpAny_attempt (wpAny_holding ?_))
  unfold callGetattribute
  rw [e0, if_neg Bool.false_ne_true]
  unfold boundAndCalled
  rw [PySem.F.excAttr_ValueError.ga.bind (.ref x)]
  refine wpAny_bind (wpAny_pure ?_)
  show wpAny _ _ (call (.builtin "BaseException.__getattribute__") [.ref x, .str "__class__" t]) _ _ _
  refine wpAny_call (codeAny_call_builtin PySem.F.excAttr_ValueError.ga.plain PySem.F.entry_bexc_ga ?_)
  refine @check_slot (model prog w) _ _ ⟨hp, g, d, t + 1, os⟩ "BaseException.__getattribute__" "BaseException" "__getattribute__" (.ref x) [.str "__class__" t] [] _ (by decide +kernel) (by decide +kernel) sub (PySem.F.args_bexc_ga (.ref x) (.str "__class__" t)) ?_
  unfold Builtin.«object.__getattribute__»
  refine wpAny_bind (wpAny_of_eq (a := ((Value.ref x : Value), [Value.str "__class__" t])) (by first | rfl | (simp only [slotArgs]; rfl)) ?_)
  refine wpAny_bind (wpAny_pure (wpAny_bind (L0.at (wpAny_bind (L3.at ?_)))))
  show wpAny _ _ (holding [Value.builtin "object.__class__"] (call (.builtin "getset_descriptor.__get__") [.builtin "object.__class__", .ref x, .ref D]) >>= ret) _ _ _
  refine wpAny_bind (wpAny_holding (wpAny_call (class_get (s := ⟨hp, g, d, t + 1, os⟩) (ox := ox) (od := od) X I T.hm ?_)))
  refine wpAny_pure ?_
  show wpAny _ _ (handedOut (.ref D)) _ _ _
  rw [handedOut_of (v := .ref D) rfl]
  first
    | exact wpAny_pure (wpAny_pure h)
    | exact wpAny_pure h
    | exact wpAny_pure (wpAny_bind (wpAny_pure (wpAny_pure h)))
theorem xo_kit {od : Option Obj} (T : ExcC K D) : KitX K (.ref x) (.ref D) (fun h => InstAt h x ox D od) where
  ty := fun _ _ _ I => I.type
  it := fun _ _ X _ => by
    obtain ⟨cdD, hcD, _⟩ := any_some T.hd
    unfold clsIn at hcD
    split at hcD
    · rename_i c' d' cd' sl' ho
      intro A' Q' E' s' k q
      unfold isType loadHead
      exact wpAny_bind (wpAny_loadPart (k _ _ (X _ _ ho)) (wpAny_pure q))
    · cases hcD
  ne := fun h tp dd its n sl X htp => by
    obtain ⟨cdD, hcD, _⟩ := any_some T.hd
    refine Bool.eq_false_iff.mpr fun q => ?_
    have e : D = tp := Value.ref.inj (beq_iff_eq.mp q)
    subst e
    unfold clsIn at hcD
    split at hcD
    · rename_i c' d' cd' sl' ho
      have z := (X _ _ ho).symm.trans htp
      cases z
    · cases hcD
  ca := fun X I k => xo_class T X I k
end
/-- the object at a: with its dict, or without one -/
def XoAt (H : Hp) (a C : Addr) (fs : List (Str × V)) : Prop := (∃ dx, H a = some (exo a C (some dx)) ∧ H dx = some (exd dx fs)) ∨ (fs = [] ∧ H a = some (exo a C none))
section
variable {X : Cx} {pins : List (Addr × Obj)} {σ : L2.St} {H : Hp} {s : Shared} {a C dx : Addr} {fs : List (Str × V)}
theorem xo_look (I : L2.Inv X pins σ H s) (e : XoAt H a C fs) : ∃ (ox : Obj) (od : Option Obj), PySem.W.InstAt s.heap a ox C od ∧ (fs ≠ [] → ∃ (o : Obj) (mA : Str → Option Value), od = some o ∧ (∀ n, PySem.W.lookIn n o = some (mA n)) ∧ ∀ f, RelO (fs.lookup f) (mA f)) := by
  rcases e with ⟨dx, e, ed⟩ | ⟨rfl, e⟩
  · have ⟨_, ho⟩ := exo_at I.hok e
    have ⟨mA, hns, rel⟩ := exd_at I.hok ed
    have ⟨od, h1, h2⟩ := lookIn_ns hns
    exact ⟨_, some od, ⟨ho, rfl, rfl, h1⟩, fun _ => ⟨od, mA, rfl, h2, rel⟩⟩
  · have ⟨_, ho⟩ := exo_at I.hok e
    exact ⟨_, none, ⟨ho, rfl, rfl, trivial⟩, fun z => (z rfl).elim⟩
/-- isinstance(x, D) of such an object -/
def rIsX (K : PySem.W.Frag) : List V → Hp → VK → Prop := fun xs H Q => ∃ (a C : Addr) (fs : List (Str × V)) (c : V) (u : Value) (b : Bool), xs = [.ref a, c] ∧ ClsV c u ∧ XoAt H a C fs ∧ ExcC K C ∧ PySem.W.kitOne K (.ref C) u = some b ∧ Q (.bl b) H
theorem call_isX : CallR X (.builtin "isinstance") (rIsX X.K) := by
  intro pins s σ H xs us Q I r h
  obtain ⟨a, C, fs, c, u, b, rfl, k, e, T, hk, q⟩ := h
  obtain ⟨u1, u2, rfl, r1, r2⟩ := vals2 r
  have e2 := k.eq r2
  subst e2
  cases (show u1 = Value.ref a from r1)
  obtain ⟨ox, od, J, _⟩ := xo_look I e
  exact PySem.W.kia_one (xo_kit T) I.kIn J hk (fun z => nomatch z) fun tk => ⟨.bl b, H, I.tok tk, rfl, q⟩
/-- x.f of such an object -/
def tXo (K : PySem.W.Frag) (ta : TE) (f : Str) : TE := fun σ H Q => ta σ H fun x H1 => ∃ (a C : Addr) (fs : List (Str × V)) (v : V), x = .ref a ∧ XoAt H1 a C fs ∧ XfC K C ∧ PySem.W.findIn K (.ref C) f = some none ∧ fs.lookup f = some v ∧ Q v H1
theorem pe_xo {e : Expr} {f : Str} {pos : Pos} {ta : TE} (he : PE X e ta) (hb : attributeBase e f X.env (eval e X.env) = eval e X.env) : PE X (.Attribute e f pos) (tXo X.K ta f) :=
  ⟨fun pins s σ H Q I h => attr_of hb (thn (he.run pins s σ H _ I h) fun u s1 ⟨x, H1, I1, rx, a, C, fs, v, ex, ea, T, hno, l, q⟩ => by
    subst ex
    cases (show u = Value.ref a from rx)
    obtain ⟨ox, od, J, hf⟩ := xo_look I1 ea
    obtain ⟨o, mA, rfl, hl, rel⟩ := hf fun z => by rw [z] at l; cases l
    have r0 := rel f
    rw [l] at r0
    cases hv : mA f with
    | none => rw [hv] at r0; exact False.elim r0
    | some w =>
      rw [hv] at r0
      exact HandSPX.exc_get I1.kIn J T.ga T.gg T.exC (PySem.W.findObj_own T.hdC hno rfl (by rw [hl, hv])) (handed_of (v := v) r0) ⟨v, H1, I1.tok _, r0, q⟩)⟩
end
/-! ### the mirror -/
theorem RepV.ins_inv {K : PySem.W.Frag} {pa : PAd} {g : Gh} {v : V} {i : Nat} {fs : List (Str × D)} (r : RepV K pa g v (.ins i fs)) : ∃ (a C : Addr) (ns : List Str) (xs : List V) (ds : List D), v = .ref a ∧ fs = ns.zip ds ∧ pa.exA[i]? = some C ∧ ExoF g.Fz a C ns xs ∧ ns.length = ds.length ∧ RepVs K pa g xs ds := by
  cases r with
  | exo h1 h2 h3 h4 h5 => exact ⟨_, _, _, _, _, rfl, rfl, h1, h2, h3, h4, h5⟩
section
variable {F : Fm} {X : Cx} {k : Nat} {e : Expr} {pos p p2 : Pos} {f : Ev → M D} {T : Str}
theorem xoAt_of {g : Gh} {H : Hp} {a C : Addr} {ns : List Str} {xs : List V} (sb : Sub g H) (h : ExoF g.Fz a C ns xs) : XoAt H a C (ns.zip xs).reverse := by
  rcases h with ⟨dx, h1, h2⟩ | ⟨rfl, h2⟩
  · exact .inl ⟨dx, sb _ _ h1, sb _ _ h2⟩
  · exact .inr ⟨rfl, sb _ _ h2⟩
/-- isinstance(x, c), c an own class of errors: t tells the answer by x's class -/
def isxM (t : Nat → Bool) : D → M RV
  | .ins i _ => retB (t i)
  | _ => stuck
theorem fIsX (C : Ctx F X k) {t : Nat → Bool} {cT : Addr} (hm : X.mg "isinstance" = none) (hT : X.mg T = some (.ref cT)) (ht : ∀ i C, F.pa.exA[i]? = some C → ExcC X.K C ∧ PySem.W.kitOne X.K (.ref C) (.ref cT) = some (t i)) (pe : PE X e (tQ F f)) (hg : Gl X "isinstance" := by rfl) (hgT : Gl X T := by rfl) (hp : plainE e = true := by rfl) (hd : (T == ("__debug__" : Str)) = false := by decide) :
    PE X (.Call (.Name "isinstance" p) [e, .Name T p2] [] pos) (tR F (op1 (isxM t) f)) := by
  refine PE.mono (fun σ H Q ⟨g, ρ, st, R, q⟩ => ?_) (pe_callB call_isX hg hm (by decide +kernel) (pa2 hp rfl pe (pe_glob (v := .ref cT) hgT hT rfl hd)) (by decide) (by decide) (star_cons hp X.env) rfl)
  refine tQ.use R q fun d g1 H1 st1 v gr1 R1 rv q1 => ?_
  cases d with
  | ins i fs =>
    obtain ⟨a, C, ns, xs, ds, rfl, rfl, h1, h2, h3, h4⟩ := (rv.notlst (fun _ z => by cases z)).ins_inv
    obtain ⟨t1, t2⟩ := ht i C h1
    exact ⟨a, C, _, .ref cT, .ref cT, t i, rfl, .own cT, xoAt_of R1.sub h2, t1, t2, ((q1 : Post F g1 H1 σ ((retB (t i)) st1) _).pure R1.sub R1.sto) _ (.bl _)⟩
  | _ => exact (q1 : False).elim
/-- x.n: x of a class that ok takes -/
def fldE (ok : Nat → Bool) (n : Str) (f : Ev → M D) : Ev → M D := fun ρ => do
  let d ← f ρ
  match d with
  | .ins i fs => if ok i && decide ((fs.map (·.1)).Nodup) then (match fs.lookup n with | some x => pure x | none => stuck) else stuck
  | _ => stuck
theorem zip_fst {α : Type} : ∀ {ns : List Str} {ds : List α}, ns.length = ds.length → (ns.zip ds).map (·.1) = ns
  | [], [], _ => rfl
  | n :: ns, d :: ds, h => by simp [zip_fst (ns := ns) (ds := ds) (by simpa using h)]
  | n :: ns, [], h => by simp at h
  | [], d :: ds, h => by simp at h
theorem eFld (C : Ctx F X k) {ok : Nat → Bool} {n : Str} (hk : ∀ i C, F.pa.exA[i]? = some C → ok i = true → XfC X.K C ∧ PySem.W.findIn X.K (.ref C) n = some none) (pe : PE X e (tE F f)) (hb : attributeBase e n X.env (eval e X.env) = eval e X.env := by rfl) :
    PE X (.Attribute e n pos) (tE F (fldE ok n f)) := by
  refine PE.mono (fun σ H Q ⟨g, ρ, st, R, q⟩ => ?_) (pe_xo pe hb)
  refine tE.use R q fun d g1 H1 st1 v gr1 R1 rv q1 => ?_
  cases d with
  | ins i fs =>
    dsimp only at q1
    split at q1
    rotate_left
    · exact q1.elim
    rename_i hh
    obtain ⟨a, C, ns, xs, ds, rfl, rfl, h1, h2, h3, h4⟩ := rv.ins_inv
    obtain ⟨ho, hn⟩ := ba hh
    obtain ⟨t1, t2⟩ := hk i C h1 ho
    rw [zip_fst h3] at hn
    cases hl : (ns.zip ds).lookup n with
    | none => rw [hl] at q1; exact q1.elim
    | some y =>
      simp only [hl] at q1
      obtain ⟨z, m1, rz⟩ := zip_rep h4 hl
      refine ⟨a, C, _, z, rfl, xoAt_of R1.sub h2, t1, t2, mem_lookup' ?_ (List.mem_reverse.mpr m1), (q1.pure R1.sub R1.sto) z rz⟩
      rw [List.map_reverse, zip_fst (by rw [h3, h4.1])]
      exact List.pairwise_reverse.mpr (List.Pairwise.imp (fun h e => h e.symm) (of_decide_eq_true hn))
  | _ => exact (q1 : False).elim
end
/-! ### facts by Bools -/
def xoB (K : PySem.W.Frag) (C : Addr) : Bool := decide (PySem.W.findIn K (.ref C) "__getattribute__" = some (some (.builtin "BaseException.__getattribute__"))) && (decide (PySem.W.findIn K (.ref C) "__getattr__" = some none) && (decide (PySem.W.subIn K (.ref C) (.type "BaseException") = some true) && (PySem.W.hasDictIn K C && (decide (PySem.W.findIn K (.ref C) "__class__" = some (some (.builtin "object.__class__"))) && (decide (PySem.W.specialIn K (.builtin "object.__class__") "__get__" = some (some (.builtin "getset_descriptor.__get__"))) && (decide (PySem.W.takesIn K (.builtin "object.__class__") = some true) && decide (PySem.W.mroIn K C (.type "object") = some true)))))))
theorem xoB_ok {K : PySem.W.Frag} {C : Addr} (h : xoB K C = true) : ExcC K C := by
  obtain ⟨h1, h⟩ := ba h
  obtain ⟨h2, h⟩ := ba h
  obtain ⟨h3, h⟩ := ba h
  obtain ⟨h4, h⟩ := ba h
  obtain ⟨h5, h⟩ := ba h
  obtain ⟨h6, h⟩ := ba h
  obtain ⟨h7, h8⟩ := ba h
  exact ⟨of_decide_eq_true h1, of_decide_eq_true h2, of_decide_eq_true h3, h4, of_decide_eq_true h5, of_decide_eq_true h6, of_decide_eq_true h7, of_decide_eq_true h8⟩
/-- isinstance of each class of xs against the class y -/
def kitB (K : PySem.W.Frag) (xs : List Str) (y : Str) (t : Nat → Bool) : Bool := (List.range xs.length).all fun i => decide (PySem.W.kitOne K (.ref (He.ga K (xs.getD i Str.empty))) (.ref (He.ga K y)) = some (t i))
/-- the classes xs, and Base above them -/
def kitsB (K : PySem.W.Frag) (xs : List Str) (Base : Str) : Bool := (xs.all fun x => xoB K (He.ga K x)) && (kitB K xs Base (fun _ => true) && (List.range xs.length).all fun j => kitB K xs (xs.getD j Str.empty) fun i => decide (i = j))
theorem ga_at {K : PySem.W.Frag} {pa : PAd} {xs : List Str} (hA : pa.exA = xs.map (He.ga K)) {i : Nat} {C : Addr} (h : pa.exA[i]? = some C) : i < xs.length ∧ xs.getD i Str.empty ∈ xs ∧ C = He.ga K (xs.getD i Str.empty) := by
  rw [hA, List.getElem?_map] at h
  cases e : xs[i]? with
  | none => rw [e] at h; cases h
  | some y =>
    rw [e] at h
    cases h
    have : xs.getD i Str.empty = y := by rw [List.getD_eq_getElem?_getD, e]; rfl
    rw [this]
    exact ⟨(List.getElem?_eq_some_iff.mp e).1, List.mem_of_getElem? e, rfl⟩
theorem kit_at {K : PySem.W.Frag} {pa : PAd} {xs : List Str} {Base : Str} (h : kitsB K xs Base = true) (hA : pa.exA = xs.map (He.ga K)) (j : Nat) (hj : j < xs.length) : ∀ i C, pa.exA[i]? = some C → ExcC K C ∧ PySem.W.kitOne K (.ref C) (.ref (He.ga K (xs.getD j Str.empty))) = some (decide (i = j)) := fun i C hC => by
  obtain ⟨a1, a2, rfl⟩ := ga_at hA hC
  obtain ⟨h1, h⟩ := ba h
  obtain ⟨h2, h3⟩ := ba h
  exact ⟨xoB_ok (List.all_eq_true.mp h1 _ a2), of_decide_eq_true (List.all_eq_true.mp (List.all_eq_true.mp h3 j (List.mem_range.mpr hj)) i (List.mem_range.mpr a1))⟩
theorem kit_base {K : PySem.W.Frag} {pa : PAd} {xs : List Str} {Base : Str} (h : kitsB K xs Base = true) (hA : pa.exA = xs.map (He.ga K)) : ∀ i C, pa.exA[i]? = some C → ExcC K C ∧ PySem.W.kitOne K (.ref C) (.ref (He.ga K Base)) = some ((fun _ => true : Nat → Bool) i) := fun i C hC => by
  obtain ⟨a1, a2, rfl⟩ := ga_at hA hC
  obtain ⟨h1, h⟩ := ba h
  obtain ⟨h2, h3⟩ := ba h
  exact ⟨xoB_ok (List.all_eq_true.mp h1 _ a2), of_decide_eq_true (List.all_eq_true.mp h2 i (List.mem_range.mpr a1))⟩
end Dn

set_option Elab.async false
set_option linter.all false
set_option maxRecDepth 100000
set_option maxHeartbeats 4000000
/-! an own error made as a value: by place and by keyword -/
namespace Dn
open PySem PySem.Spec PyProof.Rows L2
namespace KwX
open PySem.W PySem.Calls PySem.HandSPX Builtin
section
variable {M : Model} {A : Around} {E : Value → Shared → Prop} {h : Heap} {g : Array GenState} {d : Drawn} {t : Nat} {os : OsState}
variable {nm q : Str} {C N : Addr} {bs bm bmB : List Value} {hdct : Bool} {sn : List Str} {sub : List Value} {ab : Bool} {col : Option Bool} {dd : Option Addr} {k0 k1 k2 k3 k5 : Option Value} {B newId initId : String} {kw : List (Str × Value)}
theorem check_new (F : ExcBaseFacts B newId initId bmB) (hT : ∀ X : String, bm.contains (.type X) = bmB.contains (.type X)) {rest : List Value} {Q : Unit → Shared → Prop}
    (hC : h.get? C = some (excClassObj nm q C N bs bm hdct sn sub ab col dd k0 k1 k2 k3 k5 newId)) (hq : Q () ⟨h, g, d, t, os⟩) : wpAny M A (checkBuiltinCall newId ⟨.ref C :: rest, kw⟩) Q E ⟨h, g, d, t, os⟩ := by
  have c1 : (Value.ref C :: bm).contains (.type B) = true := by rw [List.contains_cons, hT, F.hasB, Bool.or_true]
  have c2 := F.noStar
  simp only [checkBuiltinCall, F.newKind, F.newSplit, F.newRow]
  repeat (first | refine wpAny_loadPart_at hC ?_ | (refine wpAny_isSubtype_exc hC ?_; rw [c1]) | refine wpAny_staticBase_exc hC ?_ | refine wpAny_madeBy_exc hC ?_ | simp only [bne_self_eq_false, Bool.false_eq_true, if_false] | wp_step)
  exact hq
theorem check_tc {rest : List Value} {Q : Unit → Shared → Prop} (hC : h.get? C = some (excClassObj nm q C N bs bm hdct sn sub ab col dd k0 k1 k2 k3 k5 newId))
    (hq : Q () ⟨h, g, d, t, os⟩) : wpAny M A (checkBuiltinCall "type.__call__" ⟨.ref C :: rest, kw⟩) Q E ⟨h, g, d, t, os⟩ := by
  have L0 : Looks M h (typeOf (.ref C)) (.type "type") := (Looks.ld hC).andThen .now
  have L1 : Looks M h (isInstance (.ref C) (.type "type")) true := L0.andThen (Looks.of_pure (by rw [tc_sub]))
  exact check_slot (s := ⟨h, g, d, t, os⟩) tc_kind tc_split L1 (tc_args _ _ _) hq
end
section
variable {prog : Program} {w : World} {A : Around} {E : Value → Shared → Prop} {R : Result → Shared → Prop} {h : Heap} {g : Array GenState} {d : Drawn} {t : Nat} {os : OsState}
variable {nm q : Str} {C N : Addr} {bs bm bmB : List Value} {hdct : Bool} {sn : List Str} {sub : List Value} {ab : Bool} {col : Option Bool} {dd : Option Addr} {k0 k1 k2 k3 k5 : Option Value} {B newId initId : String} {kw : List (Str × Value)}
theorem new_exc (F : ExcBaseFacts B newId initId bmB) (hT : ∀ X : String, bm.contains (.type X) = bmB.contains (.type X)) {rest : List Value}
    (hC : h.get? C = some (excClassObj nm q C N bs bm hdct sn sub ab col dd k0 k1 k2 k3 k5 newId))
    (hq : R (.ok (.ret (.ref (h.objs.size + 1)))) ⟨(h.push { cls := .type "tuple", data := .seq rest.toArray }).push
      { cls := .ref C, data := .fields #[.ref h.objs.size, .none, .none, .none, .bool false, .none] }, g, d, t, os⟩) (hl : rest.length ≤ sizeLine) :
    codeAny (model prog w) A (.builtin newId ⟨.ref C :: rest, kw⟩) R ⟨h, g, d, t, os⟩ := by
  have c0 := F.ends
  have c1 : (Value.ref C :: bm).contains (.type B) = true := by rw [List.contains_cons, hT, F.hasB, Bool.or_true]
  have c2 : (Value.ref C :: bm).contains (.type "AttributeError") = false := by rw [List.contains_cons, hT, F.noAttr]; rfl
  have c3 : (Value.ref C :: bm).contains (.type "NameError") = false := by rw [List.contains_cons, hT, F.noName]; rfl
  refine codeAny_builtinAt F.entry ?_
  unfold Builtin.«BaseException.__new__»
  refine PySem.wpAt_bind ?_
  show PySem.wpAt _ _ _ (stack >>= _) _ _ _
  refine PySem.wpAt_bind (PySem.wpAt_stack fun p below => PySem.wpAt_of_wpAny ?_)
  wp_walk
  refine PySem.wpAt_of_wpAny ?_
  rw [F.owner]
  repeat (first | with_reducible refine wpAny_madeHere_exc F.canon hC ?_ | with_reducible refine wpAny_loadPart_at hC ?_ | (with_reducible refine wpAny_isSubtype_exc hC ?_; first | rw [c1] | rw [c2] | rw [c3]) | wp_step)
  show R _ _
  rw [Heap.size_push]
  exact hq
theorem tc_exc (F : ExcBaseFacts B newId initId bmB) (hT : ∀ X : String, bm.contains (.type X) = bmB.contains (.type X)) {rest : List Value} {fI : Addr} {Q : Fin → Shared → Prop}
    (hC : h.get? C = some (excClassObj nm q C N bs bm hdct sn sub ab col dd k0 k1 k2 k3 k5 newId))
    (hi : W.Looks (model prog w) h (typeLookup (.ref C) "__init__") (some (.ref fI))) (hb : ∀ self, W.Looks (model prog w) h (bindSpecial (.ref fI) self) (.ref fI, [self])) (hl : rest.length ≤ sizeLine)
    (hq : codeAny (model prog w) A (.call (.ref fI) ⟨.ref (h.objs.size + 1) :: rest, kw⟩)
      (fun r s' => match r with | .ok (.ret v) => v = .none ∧ Q (.done (.ret (.ref (h.objs.size + 1)))) s' | .ok _ => False | .error e => E e s')
      ⟨(h.push (W.kdv_tup rest)).push (excO C h.objs.size), g, d, t, os⟩) :
    wpAny (model prog w) A (Builtin.«type.__call__» ⟨.ref C :: rest, kw⟩) Q E ⟨h, g, d, t, os⟩ := by
  repeat (first | with_reducible refine wpAny_loadPart_at hC ?_ | with_reducible refine wpAny_madeBy_exc hC ?_ | wp_step)
  refine codeAny_call_builtin_code (Code.quiet_builtin _ F.quiet) (check_new F hT hC ?_)
  refine new_exc F hT hC ?_ hl
  show wpAny _ _ _ _ _ _
  have k : ∀ b o, h.get? b = some o → ((h.push (W.kdv_tup rest)).push (excO C h.objs.size)).get? b = some o := fun b o e => Heap.get?_push_of_some _ (Heap.get?_push_of_some _ e)
  have h1 := k _ _ hC
  have h2 : ((h.push (W.kdv_tup rest)).push (excO C h.objs.size)).get? (h.objs.size + 1) = some (excO C h.objs.size) := by heap_get
  have h3 : (Value.ref C :: bm).contains (.ref C) = true := by simp
  have i1 := hi.keeps k
  have b1 := (hb (.ref (h.objs.size + 1))).keeps k
  unfold isInstance
  repeat (first | with_reducible refine wpAny_loadPart_at h2 ?_ | (with_reducible refine wpAny_isSubtype_exc h1 ?_; rw [h3]) | wp_step)
  show wpAny _ _ (typeLookup (.ref C) _) _ _ _
  refine i1.at ?_
  refine wpAny_holding (wpAny_bind (b1.at ?_))
  refine wpAny_bind (wpAny_call (codeAny_mono hq fun r s' z => ?_))
  rcases r with e | (v | _ | _ | _) <;> first | exact z | exact z.elim | skip
  obtain ⟨rfl, z⟩ := z
  first
    | exact wpAny_pure (wpAny_pure z)
    | (wp_walk; exact z)
theorem call_exc (F : ExcBaseFacts B newId initId bmB) (hT : ∀ X : String, bm.contains (.type X) = bmB.contains (.type X)) {rest : List Value} {fI : Addr}
    (hC : h.get? C = some (excClassObj nm q C N bs bm hdct sn sub ab col dd k0 k1 k2 k3 k5 newId))
    (hi : W.Looks (model prog w) h (typeLookup (.ref C) "__init__") (some (.ref fI))) (hb : ∀ self, W.Looks (model prog w) h (bindSpecial (.ref fI) self) (.ref fI, [self])) (hl : rest.length ≤ sizeLine)
    (hq : codeAny (model prog w) (A.under (.builtin "type.__call__" ⟨.ref C :: rest, kw⟩)) (.call (.ref fI) ⟨.ref (h.objs.size + 1) :: rest, kw⟩) (W.InitBack (h.objs.size + 1) R)
      ⟨(h.push (W.kdv_tup rest)).push (excO C h.objs.size), g, d, t, os⟩) :
    codeAny (model prog w) A (.call (.ref C) ⟨rest, kw⟩) R ⟨h, g, d, t, os⟩ := by
  have f1 := tc_lookup
  have f2 := tc_bind (.ref C)
  have hTy : (⟨h, g, d, t, os⟩ : Shared).TypeIs (.ref C) "type" := ⟨_, hC, rfl⟩
  refine codeAny_of_tree ?_
  show wpAny _ _ (callAny (.ref C) _) _ _ _
  repeat (any_goals (first | assumption | with_reducible refine wpAny_loadPart_at hC ?_ | wp_step))
  refine ⟨rfl, ?_⟩
  refine codeAny_call_builtin_at (Code.quiet_builtin _ (by decide +kernel)) entry_typeCall (check_tc hC (tc_exc F hT hC hi hb hl ?_))
  refine codeAny_mono hq fun r s' z => ?_
  rcases r with e | (v | _ | _ | _) <;> exact z
end
end KwX
section
variable {X : Cx} {CX : CXT} {k n : Nat} {fI C : Addr} {fd : FuncData} {ps ks : List Str} {sp : Sp} {x : Str} {p pos : Pos} {e : Expr} {es : List Expr} {kws : List Keyword} {ta tk : TA} {g : List Value → List Value → List Value} {gV : List V → List V → List V}
theorem run_oex {pins : List (Addr × Obj)} {σ : L2.St} {H : Hp} {s : Shared} {Q : VK} {us ws : List Value} {vs zs : List V} (T : OexC X.K C) (iC : PySem.W.findIn X.K (.ref C) "__init__" = some (some (.ref fI))) (tI : PySem.W.typeIn X.K (.ref fI) = some (.type "function"))
    (F1 : FnOk X.prog X.w X.K X.mg X.base CX k fI fd ps sp) (hr : Room (k + 1) X.A) (hb : KBn X.K fd ps (n + 1) ks g gV) (hx : Passes CX X (fun _ _ _ => False)) (I : L2.Inv X pins σ H s) (r : Vals vs us) (rz : Vals zs ws) (l1 : vs.length = n) (l2 : zs.length = ks.length) (hl : vs.length ≤ 1000)
    (h : ∀ a, H a = none → sp (gV (.ref a :: vs) zs) (upd H a (exo a C none)) (fun v H2 => v = .non ∧ Q (.ref a) H2) (fun _ _ _ => False)) :
    wpAny (model X.prog X.w) X.A (call (.ref C) us (ks.zip ws)) (EP X pins σ Q) X.xe s := by
  obtain ⟨nm, q, N, bs, bm, sn, sub, ab, col, dd, k0, k1, k2, k3, k5, hC, hbm⟩ := T.cls
  obtain ⟨hp, g0, dr, tk, os⟩ := s
  have hsz : hp.objs.size ≤ hp.objs.size + 1 := Nat.le_succ _
  have hn : H (hp.objs.size + 1) = none := I.hok.fresh hsz
  have hq := h (hp.objs.size + 1) hn
  have kk : ∀ b o, hp.get? b = some o → ((hp.push (PySem.W.kdv_tup us)).push (PySem.HandSPX.excO C hp.objs.size)).get? b = some o := fun b o e => Heap.get?_push_of_some _ (Heap.get?_push_of_some _ e)
  have hget : ((hp.push (PySem.W.kdv_tup us)).push (PySem.HandSPX.excO C hp.objs.size)).get? (hp.objs.size + 1) = some (PySem.HandSPX.excO C hp.objs.size) := by heap_get
  have I2 : L2.Inv X pins σ (upd H (hp.objs.size + 1) (exo (hp.objs.size + 1) C none)) ⟨(hp.push (PySem.W.kdv_tup us)).push (PySem.HandSPX.excO C hp.objs.size), g0, dr, tk, os⟩ :=
    I.laid (t' := tk) (a := hp.objs.size + 1) (o := exo (hp.objs.size + 1) C none) (h' := (hp.push (PySem.W.kdv_tup us)).push (PySem.HandSPX.excO C hp.objs.size)) kk hsz (exo_ok hget)
  have r1 : Vals (V.ref (hp.objs.size + 1) :: vs) (Value.ref (hp.objs.size + 1) :: us) := .cons rfl r
  have r2 := hb.rel r1 rz
  have e1 : (Value.ref (hp.objs.size + 1) :: us).length = n + 1 := r1.length.symm.trans (congrArg Nat.succ l1)
  have e2 : ws.length = ks.length := rz.length.symm.trans l2
  have hus : us.length ≤ sizeLine := by
    rw [← Paired.length r, sizeLine_eq]
    omega
  refine wpAny_call (KwX.call_exc F.excBase_ValueError (fun Y => PySem.HandSPX.refsVE_contains Y bm hbm) (I.kIn _ _ hC) (PySem.W.looks_findIn I.kIn iC) (fun self => PySem.W.bind_fn I.kIn self tI) hus
    (codeAny_mono (F1.run _ X.stack _ _ ⟨Value.ref (hp.objs.size + 1) :: us, ks.zip ws⟩ (g (Value.ref (hp.objs.size + 1) :: us) ws) _ _ (fun _ _ _ => False) (hr.make C us (ks.zip ws)) (I2.env0.make C us (ks.zip ws)) (hb.to _ (Value.ref (hp.objs.size + 1) :: us) ws I2.kIn e1 e2) r2 hq) fun r s' hq' => ?_))
  cases r with
  | error er => exact hx pins σ _ _ er s' I2 hq'
  | ok fl =>
    cases fl with
    | ret u =>
      obtain ⟨v, H', I3, rv, ev, q3⟩ := I2.after hq'
      subst ev
      exact ⟨rv, ⟨V.ref (hp.objs.size + 1), H', I3, rfl, q3⟩⟩
    | next => exact False.elim hq'
    | brk => exact False.elim hq'
    | cont => exact False.elim hq'
/-- C(e, ..) as a value -/
def tMkV (C : Addr) (n : Nat) (sp : Sp) (ta : TA) : TE := fun σ H Q => ta σ H fun vs H1 => vs.length = n ∧ vs.length ≤ 1000 ∧ ∀ a, H1 a = none → sp (.ref a :: vs) (upd H1 a (exo a C none)) (fun v H2 => v = .non ∧ Q (.ref a) H2) (fun _ _ _ => False)
/-- C(k = e, ..) as a value -/
def tMkW (C : Addr) (m : Nat) (sp : Sp) (gV : List V → List V → List V) (tk : TA) : TE := fun σ H Q => tk σ H fun zs H1 => zs.length = m ∧ ∀ a, H1 a = none → sp (gV [.ref a] zs) (upd H1 a (exo a C none)) (fun v H2 => v = .non ∧ Q (.ref a) H2) (fun _ _ _ => False)
theorem pe_oexV (T : OexC X.K C) (iC : PySem.W.findIn X.K (.ref C) "__init__" = some (some (.ref fI))) (tI : PySem.W.typeIn X.K (.ref fI) = some (.type "function"))
    (F1 : FnOk X.prog X.w X.K X.mg X.base CX k fI fd ps sp) (hr : Room (k + 1) X.A) (hb : Binds X.K fd ps []) (hps : ps.length = n + 1) (hx : Passes CX X (fun _ _ _ => False)) (hg : Gl X x) (hm : X.mg x = some (.ref C)) (ha : PA X (e :: es) ta)
    (hdb : (x == ("__debug__" : Str)) = false) (he : starEach (e :: es) X.env = (false, eval e X.env) :: starEach es X.env) (hpl : (backTo pos (starEach es X.env)).any (·.1) = false) :
    PE X (.Call (.Name x p) (e :: es) [] pos) (tMkV C n sp ta) := by
  refine ⟨fun pins s σ H Q I h => ?_⟩
  refine wpAny_Call_Name_kw (ld_glob I hg hm ?_ hdb)
  refine PySem.W.callWith_K (h₀ := X.base) I.ok.mod.kin T.kC (thn (ha.run pos pins s σ H _ I h) fun us s1 ⟨vs, H1, I1, r1, l1, hl, q1⟩ => ⟨I1.kIn, ?_⟩) he hpl
  exact run_oex (ks := []) (ws := []) (zs := []) (g := fun us _ => us) (gV := fun vs _ => vs) T iC tI F1 hr ⟨fun s us ws K1 e1 _ => by
    have := hb s us K1 (by rw [List.append_nil, e1, hps])
    rw [List.append_nil] at this
    exact this, fun r _ => r⟩ hx I1 r1 .nil l1 rfl hl q1
theorem pe_oexW (T : OexC X.K C) (iC : PySem.W.findIn X.K (.ref C) "__init__" = some (some (.ref fI))) (tI : PySem.W.typeIn X.K (.ref fI) = some (.type "function"))
    (F1 : FnOk X.prog X.w X.K X.mg X.base CX k fI fd ps sp) (hr : Room (k + 1) X.A) (hb : KBn X.K fd ps 1 ks g gV) (hx : Passes CX X (fun _ _ _ => False)) (hg : Gl X x) (hm : X.mg x = some (.ref C)) (hkw : PK X kws tk)
    (hdb : (x == ("__debug__" : Str)) = false) (hall : (backToKw pos (keywordEach kws X.env)).all (·.1.isSome) = true) (hks : (backToKw pos (keywordEach kws X.env)).filterMap (·.1) = ks) (hpl : ((backTo pos (starEach [] X.env)).any (·.1) || (backToKw pos (keywordEach kws X.env)).any (·.1.isNone)) = false) :
    PE X (.Call (.Name x p) [] kws pos) (tMkW C ks.length sp gV tk) := by
  refine ⟨fun pins s σ H Q I h => ?_⟩
  refine wpAny_Call_Name_kw (ld_glob I hg hm ?_ hdb)
  refine PySem.W.callWith_KW0 (h₀ := X.base) I.ok.mod.kin T.kC hall (thn (hkw.run pos pins s σ H _ I h) fun ws s1 ⟨zs, H1, I1, rz, l2, q1⟩ => ⟨I1.kIn, ?_⟩) hpl
  rw [hks]
  exact run_oex (n := 0) (us := []) (vs := []) T iC tI F1 hr hb hx I1 .nil rz rfl l2 (by simp) q1
end
end Dn

set_option Elab.async false
set_option linter.all false
set_option maxRecDepth 100000
set_option maxHeartbeats 4000000
/-! errors made as values: the mirror; except without a name; targets of three, four -/
namespace Dn
open PySem PySem.Spec PyProof.Rows L2
def pickK {α : Type} (names ks : List Str) (zs : List α) : List α := names.filterMap fun n => (ks.zip zs).lookup n
theorem pickK_rep {K : PySem.W.Frag} {pa : PAd} {g : Gh} {ks : List Str} {zs : List V} {ds : List D} (r : RepVs K pa g zs ds) (hl : ds.length = ks.length) : ∀ names : List Str, (∀ n ∈ names, n ∈ ks) → RepVs K pa g (pickK names ks zs) (pickK names ks ds) ∧ (pickK names ks ds).length = names.length
  | [], _ => ⟨.nil, rfl⟩
  | n :: names, h => by
    obtain ⟨ih, il⟩ := pickK_rep r hl names fun m hm => h m (by simp [hm])
    have key : ∀ (ks : List Str) (zs : List V) (ds : List D), RepVs K pa g zs ds → ds.length = ks.length → n ∈ ks → ∃ v d, (ks.zip zs).lookup n = some v ∧ (ks.zip ds).lookup n = some d ∧ RepV K pa g v d := by
      intro ks
      induction ks with
      | nil => intro zs ds _ _ hn; simp at hn
      | cons m ks ihk =>
        intro zs ds r hl hn
        cases ds with
        | nil => simp at hl
        | cons d ds =>
          obtain ⟨y, ys, rfl, r1, r2⟩ := r.inv_cons
          by_cases e : n = m
          · subst e
            exact ⟨y, d, by rw [List.zip_cons_cons, List.lookup_cons_self], by rw [List.zip_cons_cons, List.lookup_cons_self], r1⟩
          · have hb : (n == m) = false := by simpa using e
            obtain ⟨v, w, h1, h2, h3⟩ := ihk ys ds r2 (by simpa using hl) (by simpa [e] using hn)
            exact ⟨v, w, by rw [List.zip_cons_cons, List.lookup_cons, hb]; exact h1, by rw [List.zip_cons_cons, List.lookup_cons, hb]; exact h2, h3⟩
    obtain ⟨v, d, h1, h2, h3⟩ := key ks zs ds r hl (h n (by simp))
    have e1 : pickK (n :: names) ks zs = v :: pickK names ks zs := by unfold pickK; rw [List.filterMap_cons, h1]
    have e2 : pickK (n :: names) ks ds = d :: pickK names ks ds := by unfold pickK; rw [List.filterMap_cons, h2]
    rw [e1, e2]
    exact ⟨.cons h3 ih, by simp [il]⟩
/-- C(e, ..) -/
def mkE (i : Nat) (names : List Str) (fs : Ev → M (List D)) : Ev → M D := fun ρ => do
  let ds ← fs ρ
  if ds.length = names.length ∧ names.length ≤ 800 then pure (.ins i (names.zip ds)) else stuck
/-- C(k = e, ..) -/
def mkK (i : Nat) (names ks : List Str) (fs : Ev → M (List D)) : Ev → M D := fun ρ => do
  let zs ← fs ρ
  if zs.length = ks.length ∧ (names.all fun n => ks.contains n) = true ∧ names.length ≤ 800 then pure (.ins i (names.zip (pickK names ks zs))) else stuck
section
variable {F : Fm} {X : Cx} {e : Expr} {es : List Expr} {kws : List Keyword} {p pos : Pos} {x : Str} {fs : Ev → M (List D)} {f : Ev → M D} {nm : Option Str} {kpos : Pos}
theorem pk_N : PK X [] (tA F aN) := ⟨fun pos pins s σ H Q I ⟨g, ρ, st, R, q⟩ => pk_nil.run pos pins s σ H Q I ((Post.pure (a := []) q R.sub R.sto) [] RepVs.nil)⟩
theorem pk_C (p : PE X e (tE F f)) (r : PK X kws (tA F fs)) : PK X (⟨nm, e, kpos⟩ :: kws) (tA F (aC f fs)) := ⟨fun pos pins s σ H Q I ⟨g, ρ, st, R, q⟩ => by
  refine (pk_cons p r).run pos pins s σ H Q I ?_
  refine tE.use R q fun d g1 H1 st1 v gr1 R1 rv q1 => ?_
  refine tA.use R1 q1 fun ds g2 H2 st2 vs gr2 R2 rvs q2 => ?_
  exact (q2.pure R2.sub R2.sto) (v :: vs) (.cons (rv.le gr2.le) rvs)⟩
theorem upd3 {H : Hp} {a dx : Addr} {u v w : HO} (ne : dx ≠ a) : upd (upd (upd H a u) dx v) a w = upd (upd H dx v) a w := by
  funext b
  by_cases h2 : b = a
  · subst h2; rw [upd_same, upd_same]
  · rw [upd_ne h2, upd_ne h2]
    by_cases h1 : b = dx
    · subst h1; rw [upd_same, upd_same]
    · rw [upd_ne h1, upd_ne h1, upd_ne h2]
/-- the made object is laid and frozen -/
theorem lay_exo {i : Nat} {names : List Str} {C a dx : Addr} {vs : List V} {ds : List D} {g : Gh} {H : Hp} {σ : L2.St} {st : Store} {Q : VK} (sb : Sub g H) (so : StoR F.K F.pa g H st) (hC : F.pa.exA[i]? = some C) (r : RepVs F.K F.pa g vs ds) (hl : ds.length = names.length) (ha : H a = none) (hd : H dx = none) (ne : dx ≠ a)
    (q : Post F g H σ ((pure (.ins i (names.zip ds)) : M D) st) fun d g' H' _ => ∀ v, RepV F.K F.pa g' v d → Q v H') : Q (.ref a) (upd (upd H dx (exd dx (names.zip vs).reverse)) a (exo a C (some dx))) := by
  have ha1 : upd H dx (exd dx (names.zip vs).reverse) a = none := by rw [upd_ne (Ne.symm ne)]; exact ha
  have g1 := grow_put (o := exd dx (names.zip vs).reverse) sb hd
  have s1 := sub_put (o := exd dx (names.zip vs).reverse) (p := dx) sb
  have t1 := sto_put (o := exd dx (names.zip vs).reverse) so sb hd
  refine q _ _ (g1.trans (grow_put (o := exo a C (some dx)) s1 ha1)) (sub_put s1) (sto_put t1 s1 ha1) _ ?_
  refine .exo hC (.inl ⟨dx, upd_same, ?_⟩) hl.symm r.1 (fun i x d h1 h2 => ((r.2 i x d h1 h2).le g1.le).le (le_put (s1.none ha1)))
  show upd (upd g.Fz dx _) a _ dx = _
  rw [upd_ne ne, upd_same]
theorem eMk {k : Nat} (C : Ctx F X k) (i : Nat) {names : List Str} (Ed : ExcD X.prog X.w X.K X.mg X.base x names) (ha : PA X (e :: es) (tA F fs)) (hC : F.pa.exA[i]? = some (He.ga X.K x)) (hk : 2 ≤ k := by decide) (hg : Gl X x := by rfl) (hp : plainEs (e :: es) = true := by rfl) (hd : (x == ("__debug__" : Str)) = false := by decide) :
    PE X (.Call (.Name x p) (e :: es) [] pos) (tE F (mkE i names fs)) := by
  obtain ⟨fI, fd, h1, h2, h3, h4⟩ := Ed.init
  have hp := plainEs_at hp
  refine PE.mono (fun σ H Q ⟨g, ρ, st, R, q⟩ => ?_) (pe_oexV (n := names.length) Ed.E.T h1 h2 h3 (C.hr.mono hk) h4 rfl passL hg Ed.glo ha hd (star_cons (hp e (by simp)) X.env) (star_any fun e' he => hp e' (by simp [he])))
  refine tA.use R q fun ds g1 H1 st1 vs gr1 R1 rvs q1 => ?_
  split at q1
  rotate_left
  · exact q1.elim
  rename_i hl
  refine ⟨by rw [rvs.1, hl.1], by rw [rvs.1]; omega, fun a ha => ⟨a, vs, rfl, by rw [rvs.1, hl.1], upd_same, fun dx hd ne => ⟨rfl, ?_⟩⟩⟩
  rw [upd3 ne]
  rw [upd_ne ne] at hd
  exact lay_exo R1.sub R1.sto hC rvs hl.1 ha hd ne q1
/-- how such a call by keywords binds -/
structure KwD (K : PySem.W.Frag) (fd : FuncData) (names ks : List Str) : Prop where
  b : ∃ g : List Value → List Value → List Value, KBn K fd (("self" : Str) :: names) 1 ks g (fun vs zs => vs ++ pickK names ks zs)
theorem pickK_vals {ks : List Str} {zs : List V} {ws : List Value} (r : Vals zs ws) (names : List Str) : Vals (pickK names ks zs) (pickK names ks ws) := by
  have key : ∀ (n : Str) (ks : List Str) (zs : List V) (ws : List Value), Vals zs ws → ((ks.zip zs).lookup n = none ∧ (ks.zip ws).lookup n = none) ∨ ∃ v u, (ks.zip zs).lookup n = some v ∧ (ks.zip ws).lookup n = some u ∧ RelV v u := by
    intro n ks
    induction ks with
    | nil => intro zs ws _; exact .inl ⟨rfl, rfl⟩
    | cons m ks ih =>
      intro zs ws r
      cases r with
      | nil => exact .inl ⟨rfl, rfl⟩
      | @cons v u vs us r1 r2 =>
        by_cases e : n = m
        · subst e
          exact .inr ⟨v, u, by rw [List.zip_cons_cons, List.lookup_cons_self], by rw [List.zip_cons_cons, List.lookup_cons_self], r1⟩
        · have hb : (n == m) = false := by simpa using e
          rw [List.zip_cons_cons, List.zip_cons_cons, List.lookup_cons, List.lookup_cons, hb]
          exact ih vs us r2
  induction names with
  | nil => exact .nil
  | cons n names ih =>
    unfold pickK at ih ⊢
    rw [List.filterMap_cons, List.filterMap_cons]
    rcases key n ks zs ws r with ⟨h1, h2⟩ | ⟨v, u, h1, h2, h3⟩
    · rw [h1, h2]; exact ih
    · rw [h1, h2]; exact .cons h3 ih
theorem kwD_of {K : PySem.W.Frag} {y qual : Str} {params : Arguments} {body : List Stmt} {scope : Scope} {f : Addr} {fd : FuncData} {names ks : List Str} (F : FunD K y qual params body scope [] [] f fd)
    (h : ∀ (kV doc pm : Value) (an : Option Addr) (cdv ct : Value) (u : Value) (ws : List Value), ws.length = ks.length → bindArgs (PySem.W.fnOf y qual params body scope .none kV doc pm an cdv ct) ⟨[u], ks.zip ws⟩ = pure ((("self" : Str) :: names).zip (u :: pickK names ks ws))) : KwD K fd names ks := by
  obtain ⟨oc, od, dV, kV, doc, pm, an, cdv, ct, osl, rfl, lk, hcd, hD, hK⟩ := F.ex
  rcases hD with ⟨_, rfl⟩ | ⟨e, _⟩
  · refine ⟨fun us ws => us ++ pickK names ks ws, fun s us ws _ h1 h2 => ?_, fun r rz => r.append (pickK_vals rz names)⟩
    match us, h1 with
    | [u], _ => exact .of_eq (h kV doc pm an cdv ct u ws h2)
  · exact absurd rfl e
/-- an error class that may be made by keywords ks -/
structure ExcW (P : Program) (w : World) (K : PySem.W.Frag) (mg : Str → Option Value) (base : Heap) (x : Str) (names ks : List Str) : Prop where
  T : OexC K (He.ga K x)
  glo : mg x = some (.ref (He.ga K x))
  init : ∃ (fI : Addr) (fd : FuncData), PySem.W.findIn K (.ref (He.ga K x)) "__init__" = some (some (.ref fI)) ∧ PySem.W.typeIn K (.ref fI) = some (.type "function") ∧ FnOk P w K mg base (L2.CX P w) 1 fI fd (("self" : Str) :: names) (spI (He.ga K x) names) ∧ KwD K fd names ks
theorem eMkK {k : Nat} (C : Ctx F X k) (i : Nat) {names ks : List Str} (Ed : ExcW X.prog X.w X.K X.mg X.base x names ks) (hkw : PK X kws (tA F fs)) (hC : F.pa.exA[i]? = some (He.ga X.K x)) (hk : 2 ≤ k := by decide) (hg : Gl X x := by rfl) (hd : (x == ("__debug__" : Str)) = false := by decide)
    (hall : (backToKw pos (keywordEach kws X.env)).all (·.1.isSome) = true := by rfl) (hks : (backToKw pos (keywordEach kws X.env)).filterMap (·.1) = ks := by rfl) (hpl : ((backTo pos (starEach [] X.env)).any (·.1) || (backToKw pos (keywordEach kws X.env)).any (·.1.isNone)) = false := by rfl) :
    PE X (.Call (.Name x p) [] kws pos) (tE F (mkK i names ks fs)) := by
  obtain ⟨fI, fd, h1, h2, h3, g, h4⟩ := Ed.init
  refine PE.mono (fun σ H Q ⟨g, ρ, st, R, q⟩ => ?_) (pe_oexW Ed.T h1 h2 h3 (C.hr.mono hk) h4 passL hg Ed.glo hkw hd hall hks hpl)
  refine tA.use R q fun ds g1 H1 st1 vs gr1 R1 rvs q1 => ?_
  split at q1
  rotate_left
  · exact q1.elim
  rename_i hl
  obtain ⟨r2, l2⟩ := pickK_rep rvs hl.1 names fun n hn => by simpa using List.all_eq_true.mp hl.2.1 n hn
  refine ⟨by rw [rvs.1, hl.1], fun a ha => ⟨a, pickK names ks vs, rfl, by rw [r2.1, l2], upd_same, fun dx hd ne => ⟨rfl, ?_⟩⟩⟩
  rw [upd3 ne]
  rw [upd_ne ne] at hd
  exact lay_exo R1.sub R1.sto hC r2 l2 ha hd ne q1
end
/-! ### a class without fields -/
def spI0 (C : Addr) : Sp := fun vs H Q _ => ∃ a, vs = [.ref a] ∧ H a = some (exo a C none) ∧ Q .non H
section
variable {P : Program} {w : World} {K : PySem.W.Frag} {mg : Str → Option Value} {base : Heap} {C M f : Addr} {fd : FuncData} {qual : Str} {st : Stmt}
theorem ok_init0 (F : Fun K "__init__" qual st f fd) (T : OexC K C) (B : BaseC K M) (hM : mg ("MinorError" : Str) = some (.ref M)) (hI : InitB [] (defBody st)) (S : FnScope [("self" : Str)] [("self" : Str)] (defScope st)) (hgb : (defScope st).names.lookup ("MinorError" : Str) = some .globalImplicit) :
    FnOk P w K mg base (L2.CX P w) 1 f fd [("self" : Str)] (spI0 C) := by
  have hvis : Vis (defScope st) ("self" : Str) := by
    rcases S.par _ (List.mem_singleton.mpr rfl) with k | k
    · exact .inl k
    · exact .inr (.inl k)
  refine F.okX S (fun vs H Q E h => ?_) (fun cdv A outer s H vs Q E hr h => ?_)
  · obtain ⟨a, rfl, _⟩ := h
    rfl
  · obtain ⟨a, rfl, ha, q⟩ := h
    generalize hb : defBody st = body at hI
    cases hI with
    | @mk p1 p2 p3 p4 p5 p6 m j r hs hpl =>
      cases hs
      exact ⟨_, pss_cons (ps_expr (pe_meinit hgb hM B (pa_cons (pe_var (i := 0) rfl hvis) (pa_cons pe_str pa_nil)) (init_form _ m j hpl))) pss_nil, _, rfl, a, C, [.str m], rfl, by simp, T, ha, q⟩
end
/-- an error class without fields -/
structure ExcO (P : Program) (w : World) (K : PySem.W.Frag) (mg : Str → Option Value) (base : Heap) (x : Str) : Prop where
  T : OexC K (He.ga K x)
  glo : mg x = some (.ref (He.ga K x))
  init : ∃ (fI : Addr) (fd : FuncData), PySem.W.findIn K (.ref (He.ga K x)) "__init__" = some (some (.ref fI)) ∧ PySem.W.typeIn K (.ref fI) = some (.type "function") ∧ FnOk P w K mg base (L2.CX P w) 1 fI fd [("self" : Str)] (spI0 (He.ga K x)) ∧ Binds K fd [("self" : Str)] []
theorem excO_of {P : Program} {w : World} {K : PySem.W.Frag} {mg : Str → Option Value} {base : Heap} {x qual : Str} {st : Stmt} {fd : FuncData} {M : Addr} (E : ExcK K x []) (hm : mg x = some (.ref (He.ga K x))) (F : FunD K "__init__" qual (defArgs st) (defBody st) (defScope st) [] [] (He.ma K (He.ga K x) "__init__") fd)
    (B : BaseC K M) (hM : mg ("MinorError" : Str) = some (.ref M)) (hI : InitB [] (defBody st)) (S : FnScope [("self" : Str)] [("self" : Str)] (defScope st)) (hgb : (defScope st).names.lookup ("MinorError" : Str) = some .globalImplicit)
    (hb : Binds K fd [("self" : Str)] []) : ExcO P w K mg base x :=
  ⟨E.T, hm, _, fd, E.iC, E.tI, ok_init0 (toFun F) E.T B hM hI S hgb, hb⟩
section
variable {F : Fm} {X : Cx} {p pos : Pos} {x : Str}
theorem eMk0 {k : Nat} (C : Ctx F X k) (i : Nat) (Ed : ExcO X.prog X.w X.K X.mg X.base x) (hC : F.pa.exA[i]? = some (He.ga X.K x)) (hk : 2 ≤ k := by decide) (hg : Gl X x := by rfl) (hd : (x == ("__debug__" : Str)) = false := by decide) :
    PE X (.Call (.Name x p) [] [] pos) (tE F (kk (.ins i []))) := by
  obtain ⟨fI, fd, h1, h2, h3, h4⟩ := Ed.init
  refine PE.mono (fun σ H Q ⟨g, ρ, st, R, q⟩ => ?_) (pe_oexW (ks := []) (g := fun us _ => us) (gV := fun vs _ => vs) Ed.T h1 h2 h3 (C.hr.mono hk) ⟨fun s us ws K1 e1 _ => by
    have := h4 s us K1 (by rw [List.append_nil, e1]; rfl)
    rw [List.append_nil] at this
    exact this, fun r _ => r⟩ passL hg Ed.glo pk_nil hd rfl rfl rfl)
  refine ⟨rfl, fun a ha => ⟨a, rfl, upd_same, rfl, ?_⟩⟩
  exact q _ _ (grow_put R.sub ha) (sub_put R.sub) (sto_put R.sto R.sub ha) _ (.exo (ns := []) (ds := []) (xs := []) hC (.inr ⟨rfl, upd_same⟩) rfl rfl fun i x d h1 h2 => by simp at h1)
end
/-! ### try: .. except C: .. (no name) -/
def sTryN (m : Nat → Bool) (s b : SS) : SS := fun ρ st => match b ρ st with
  | .rz i fs ρ' st' => if m i then (if noExc ρ' then (match s ρ' st' with
    | .ret r st2 => .ret r st2
    | .nx ρ2 st2 => if noExc ρ2 then .nx ρ2 st2 else .stuck
    | .brk ρ2 st2 => if noExc ρ2 then .brk ρ2 st2 else .stuck
    | .ct ρ2 st2 => if noExc ρ2 then .ct ρ2 st2 else .stuck
    | _ => .stuck) else .stuck) else .rz i fs ρ' st'
  | r => r
section
variable {F : Fm} {X : Cx} {D : Ends} {H : Hp} {σ : L2.St} {x : Str} {body suite : List Stmt} {b₀ : Stmt} {np pos pos' : Pos} {b u : SS}
theorem sTryN_mono {m : Nat → Bool} {c : Value} (hK : X.K = F.K) (hm : ∀ i C, F.pa.exA[i]? = some C → PySem.W.exmOne X.K (.ref C) c = some (m i)) (q : tS F (sTryN m u b) D σ H) :
    tS { F with W := wOnly X.K c (fun a cls d => tS (F.inCl a cls d) u) F.W D } b D σ H := by
  obtain ⟨g, ρ, st, R, q⟩ := q
  refine ⟨g, ρ, st, R.wish _, ?_⟩
  unfold sTryN at q
  cases e : b ρ st with
  | nx ρ' st' => simp only [e] at q; exact fun g1 H1 σ1 l R1 => q g1 H1 σ1 l R1.unwish
  | ret r st' => simp only [e] at q; exact q
  | brk ρ' st' => simp only [e] at q; exact fun g1 H1 σ1 l R1 => q g1 H1 σ1 l R1.unwish
  | ct ρ' st' => simp only [e] at q; exact fun g1 H1 σ1 l R1 => q g1 H1 σ1 l R1.unwish
  | stuck => simp only [e] at q; exact q
  | rz i fs ρ' st' =>
    simp only [e] at q
    intro g1 H1 σ1 cls dx l R1 ex
    have R1 := R1.unwish
    obtain ⟨C, d, vs, names, h1, h2, h3, h4, h5, h6, h7⟩ := id ex
    subst h2
    refine ⟨m i, hm i C h1, fun hb a ha => ?_, fun hb => ?_⟩
    · simp only [hb, if_true] at q
      split at q
      rotate_left
      · exact q.elim
      rename_i hn
      have R2 : SRel (F.inCl a (.ref C) dx) g1 H1 σ1 ρ' st' := SRel.other (F := F) (F' := F.inCl a (.ref C) dx) rfl rfl rfl rfl hn R1
      refine ⟨g1, ρ', st', R2, RPost.le l ?_⟩
      cases e2 : u ρ' st' with
      | ret r st2 => simp only [e2] at q; exact q
      | nx ρ2 st2 =>
        simp only [e2] at q
        split at q
        rotate_left
        · exact q.elim
        rename_i hn2
        exact fun g2 H2 σ2 l2 R3 => q g2 H2 σ2 l2 (SRel.other (F := F.inCl a (.ref C) dx) (F' := F) rfl rfl rfl rfl hn2 R3)
      | brk ρ2 st2 =>
        simp only [e2] at q
        split at q
        rotate_left
        · exact q.elim
        rename_i hn2
        exact fun g2 H2 σ2 l2 R3 => q g2 H2 σ2 l2 (SRel.other (F := F.inCl a (.ref C) dx) (F' := F) rfl rfl rfl rfl hn2 R3)
      | ct ρ2 st2 =>
        simp only [e2] at q
        split at q
        rotate_left
        · exact q.elim
        rename_i hn2
        exact fun g2 H2 σ2 l2 R3 => q g2 H2 σ2 l2 (SRel.other (F := F.inCl a (.ref C) dx) (F' := F) rfl rfl rfl rfl hn2 R3)
      | rz j fs2 ρ2 st2 => simp only [e2] at q; exact q.elim
      | stuck => simp only [e2] at q; exact q.elim
    · simp only [hb, Bool.false_eq_true, if_false] at q
      exact q g1 H1 σ1 (.ref C) dx l R1 ex
theorem zTryN {k : Nat} (C : Ctx F X k) {m : Nat → Bool} {c : Value} (hm : ∀ i C, F.pa.exA[i]? = some C → PySem.W.exmOne X.K (.ref C) c = some (m i)) (hc : Names X x c)
    (hb : ∀ (W : WX) (pn : List (Addr × Obj)) (xe : Value → Shared → Prop), Ctx { F with W := W } (X.tr pn xe) k → PSs (X.tr pn xe) body (tS { F with W := W } b))
    (hsu : ∀ (a : Addr) (oe : Obj) (cls : Value) (d : Option Addr) (pn : List (Addr × Obj)), Zc cls d oe → (∃ vs, oe.data = .fields vs) → PSs (X.suite a ((a, oe) :: pn)) (b₀ :: suite) (tS (F.inCl a cls d) u)) (hs : X.stack = X.env :: X.outer := by rfl) (hf : X.env.frame = some X.env.locals := by rfl) :
    PS X (.Try body [.ExceptHandler (some (.Name x np)) none (b₀ :: suite) pos'] [] [] pos) (tS F (sTryN m u b)) :=
  PS.mono (fun D σ H q => sTryN_mono C.K hm q) (ps_try_only (tb := fun W => tS { F with W := W } b) hs hf hc C.tk (fun W pn xe tk _ => hb W pn xe (C.tr tk)) hsu)
end
/-! ### targets of three, four names -/
section
variable {X : Cx} {x y z v : Str} {p p2 p3 p4 p5 : Pos} {kt : Nat}
theorem gT3 (i j k : Nat) (hi : X.N[i]? = some x := by rfl) (hj : X.N[j]? = some y := by rfl) (hk : X.N[k]? = some z := by rfl) (hx : Loc X.env.scope x := by first | exact Or.inl rfl | exact Or.inr rfl) (hy : Loc X.env.scope y := by first | exact Or.inl rfl | exact Or.inr rfl) (hz : Loc X.env.scope z := by first | exact Or.inl rfl | exact Or.inr rfl)
    (hf : X.fn x = true ∨ X.env.scope.names.lookup x = some .local := by first | exact .inl rfl | exact .inr rfl) (hf' : X.fn y = true ∨ X.env.scope.names.lookup y = some .local := by first | exact .inl rfl | exact .inr rfl) (hf2 : X.fn z = true ∨ X.env.scope.names.lookup z = some .local := by first | exact .inl rfl | exact .inr rfl) :
    TgOk X (.Tuple [.Name x p, .Name y p2, .Name z p3] kt p4) (.tp [i, j, k]) := by
  refine ⟨_, _, _, rfl, rfl, fun n m e h1 h2 => ?_⟩
  match n, h1, h2 with
  | 0, h1, h2 => cases h1; cases h2; exact ⟨x, p, rfl, hi, hx, hf⟩
  | 1, h1, h2 => cases h1; cases h2; exact ⟨y, p2, rfl, hj, hy, hf'⟩
  | 2, h1, h2 => cases h1; cases h2; exact ⟨z, p3, rfl, hk, hz, hf2⟩
theorem gT4 (i j k l : Nat) (hi : X.N[i]? = some x := by rfl) (hj : X.N[j]? = some y := by rfl) (hk : X.N[k]? = some z := by rfl) (hl : X.N[l]? = some v := by rfl) (hx : Loc X.env.scope x := by first | exact Or.inl rfl | exact Or.inr rfl) (hy : Loc X.env.scope y := by first | exact Or.inl rfl | exact Or.inr rfl) (hz : Loc X.env.scope z := by first | exact Or.inl rfl | exact Or.inr rfl) (hv : Loc X.env.scope v := by first | exact Or.inl rfl | exact Or.inr rfl)
    (hf : X.fn x = true ∨ X.env.scope.names.lookup x = some .local := by first | exact .inl rfl | exact .inr rfl) (hf' : X.fn y = true ∨ X.env.scope.names.lookup y = some .local := by first | exact .inl rfl | exact .inr rfl) (hf2 : X.fn z = true ∨ X.env.scope.names.lookup z = some .local := by first | exact .inl rfl | exact .inr rfl) (hf3 : X.fn v = true ∨ X.env.scope.names.lookup v = some .local := by first | exact .inl rfl | exact .inr rfl) :
    TgOk X (.Tuple [.Name x p, .Name y p2, .Name z p3, .Name v p4] kt p5) (.tp [i, j, k, l]) := by
  refine ⟨_, _, _, rfl, rfl, fun n m e h1 h2 => ?_⟩
  match n, h1, h2 with
  | 0, h1, h2 => cases h1; cases h2; exact ⟨x, p, rfl, hi, hx, hf⟩
  | 1, h1, h2 => cases h1; cases h2; exact ⟨y, p2, rfl, hj, hy, hf'⟩
  | 2, h1, h2 => cases h1; cases h2; exact ⟨z, p3, rfl, hk, hz, hf2⟩
  | 3, h1, h2 => cases h1; cases h2; exact ⟨v, p4, rfl, hl, hv, hf3⟩
end
end Dn

set_option Elab.async false
set_option linter.all false
set_option maxRecDepth 100000
set_option maxHeartbeats 4000000
/-! repr of data that hold small dicts of the store -/
namespace Dn
open PySem PySem.Spec PyProof.Rows L2
mutual
def D.res (st : Store) : D → Option PyData
  | .tup l => (D.resAll st l).map .tuple
  | .lst l => (D.resAll st l).map .list
  | .cel i => match st[i]? with
    | some c => if c.all fun p => p.2.rd then some (.dict (c.map fun p => (.str p.1, p.2.py))) else none
    | none => none
  | d => if d.rd then some d.py else none
def D.resAll (st : Store) : List D → Option (List PyData)
  | [] => some []
  | d :: r => match d.res st, D.resAll st r with
    | some x, some xs => some (x :: xs)
    | _, _ => none
end
mutual
inductive DpC (K : PySem.W.Frag) (H : Hp) : V → PyData → Prop
  | old {v : V} {d : PyData} : DpR K H v d → DpC K H v d
  | lst {a : Addr} {xs : List V} {ds : List PyData} : SqL K H a xs → DpCAll K H xs ds → DpC K H (.ref a) (.list ds)
  | tup {a : Addr} {xs : List V} {ds : List PyData} : SqT K H a xs → DpCAll K H xs ds → DpC K H (.ref a) (.tuple ds)
  | dic {a : Addr} {ps : List (Key × V)} {cs : List (Str × PyData)} : H a = some (.dK ps) → ps.map (·.1) = cs.map (fun p => (Sum.inr p.1 : Key)) → DpRAll K H (ps.map (·.2)) (cs.map (·.2)) → DpC K H (.ref a) (.dict (cs.map fun p => (.str p.1, p.2)))
inductive DpCAll (K : PySem.W.Frag) (H : Hp) : List V → List PyData → Prop
  | nil : DpCAll K H [] []
  | cons {v : V} {vs : List V} {d : PyData} {ds : List PyData} : DpC K H v d → DpCAll K H vs ds → DpCAll K H (v :: vs) (d :: ds)
end
theorem keys_read {P : Program} {w : World} {h : Heap} {es : List DictEntry} {vs : List (Key × Value)} (hp : Pairs (mixKind P w) es vs) : ∀ {cs : List (Str × PyData)}, vs.map (·.1) = cs.map (fun p => (Sum.inr p.1 : Key)) →
    ReadsAll h (es.map (·.key)) (cs.map fun p => .str p.1) [] ∧ es.map (·.val) = vs.map (·.2) := by
  induction hp with
  | nil =>
    intro cs hc
    cases cs with
    | nil => exact ⟨.nil, rfl⟩
    | cons c cs => cases hc
  | @cons e kv es kvs h1 h2 _ ih =>
    intro cs hc
    cases cs with
    | nil => cases hc
    | cons c cs =>
      simp only [List.map_cons, List.cons.injEq] at hc
      obtain ⟨r1, r2⟩ := ih hc.2
      have h1 : keyIs kv.1 e.key = true := h1
      rw [hc.1] at h1
      rcases keyIs_shape h1 with ⟨i, t, q, _⟩ | ⟨x, t, q, ek⟩
      · cases q
      · cases q
        refine ⟨?_, by simp [h2, r2]⟩
        rw [List.map_cons, ek]
        exact ReadsAll.cons (as := []) (Reads.str _ _) r1
theorem kv_vals {ps : List (Key × V)} {vs : List (Key × Value)} (kv : KV ps vs) : Vals (ps.map (·.2)) (vs.map (·.2)) := by
  unfold KV at kv
  induction kv with
  | nil => exact .nil
  | cons h1 _ ih => exact .cons h1.2 ih
section
variable {X : Cx} {pins : List (Addr × Obj)} {σ : L2.St} {H : Hp} {s : Shared}
theorem dic_reads (I : L2.Inv X pins σ H s) (sm : SmK X.K) {a : Addr} {ps : List (Key × V)} {cs : List (Str × PyData)} (e : H a = some (.dK ps)) (hk : ps.map (·.1) = cs.map (fun p => (Sum.inr p.1 : Key))) (hv : DpRAll X.K H (ps.map (·.2)) (cs.map (·.2))) :
    ∃ as, Reads s.heap (.ref a) (.dict (cs.map fun p => (.str p.1, p.2))) as ∧ sysModules ∉ as := by
  obtain ⟨_, hm, vs, kv, o, es, ep, ho, ⟨hc, _⟩, hd, _, hp, _⟩ := dk_of I.hok e
  obtain ⟨r1, r2⟩ := keys_read (h := s.heap) hp (kv.keys.symm.trans hk)
  have rv := kv_vals kv
  obtain ⟨bs, r3, n3⟩ := DpR.readsAll I sm _ _ _ hv rv
  refine ⟨_, Reads.dict (kvs := cs.map fun p => (.str p.1, p.2)) (as := []) (bs := bs) ho hc hd (by rw [List.map_map]; exact r1) (by rw [List.map_map, r2]; exact r3), fun z => ?_⟩
  rcases List.mem_cons.mp z with z | z
  · subst z; simp at hm
  · exact n3 z
mutual
theorem DpC.reads (I : L2.Inv X pins σ H s) (sm : SmK X.K) : ∀ (d : PyData) (v : V) (u : Value), DpC X.K H v d → RelV v u → ∃ as, Reads s.heap u d as ∧ sysModules ∉ as
  | .list ds, _, _, h, r => by
    cases h with
    | old h => exact DpR.reads I sm _ _ _ h r
    | @lst a _ _ hs ha =>
      cases r
      obtain ⟨its, rv, ⟨o, n, ho, hc, _, hd⟩, _⟩ := I.list hs
      obtain ⟨as, hr, hn⟩ := DpC.readsAll I sm ds _ its ha rv
      refine ⟨_, Reads.list ho hc hd hr, fun z => ?_⟩
      rcases List.mem_cons.mp z with z | z
      · obtain ⟨ob, k1, k2⟩ := sm
        have := I.kIn _ _ k1
        rw [z, ho] at this
        cases this
        exact k2 _ _ hd
      · exact hn z
  | .tuple ds, _, _, h, r => by
    cases h with
    | old h => exact DpR.reads I sm _ _ _ h r
    | @tup a _ _ hs ha =>
      cases r
      obtain ⟨its, rv, ⟨o, ho, hc, n, hd⟩, _⟩ := I.tuple hs
      obtain ⟨as, hr, hn⟩ := DpC.readsAll I sm ds _ its ha rv
      exact ⟨_, Reads.tuple ho hc hd hr, hn⟩
  | .dict l, v, u, h, r => by
    generalize e : PyData.dict l = d at h
    cases h with
    | old h => subst e; exact DpR.reads I sm _ _ _ h r
    | dic h1 h2 h3 => cases r; exact dic_reads I sm h1 h2 h3
    | lst _ _ => cases e
    | tup _ _ => cases e
  | .none, _, _, h, r => by cases h with | old h => exact DpR.reads I sm _ _ _ h r
  | .bool b, _, _, h, r => by cases h with | old h => exact DpR.reads I sm _ _ _ h r
  | .int i, _, _, h, r => by cases h with | old h => exact DpR.reads I sm _ _ _ h r
  | .str x, _, _, h, r => by cases h with | old h => exact DpR.reads I sm _ _ _ h r
theorem DpC.readsAll (I : L2.Inv X pins σ H s) (sm : SmK X.K) : ∀ (ds : List PyData) (vs : List V) (us : List Value), DpCAll X.K H vs ds → Vals vs us → ∃ as, ReadsAll s.heap us ds as ∧ sysModules ∉ as
  | [], _, _, h, r => by
    cases h
    cases r
    exact ⟨_, ReadsAll.nil, by simp⟩
  | d :: ds, _, _, h, r => by
    cases h with
    | cons h1 h2 =>
      cases r with
      | cons r1 r2 =>
        obtain ⟨as, q1, n1⟩ := DpC.reads I sm d _ _ h1 r1
        obtain ⟨bs, q2, n2⟩ := DpC.readsAll I sm ds _ _ h2 r2
        exact ⟨_, ReadsAll.cons q1 q2, fun z => (List.mem_append.mp z).elim n1 n2⟩
end
end
/-- a list's text -/
def reprC (d : D) : M RV := fun st => match d with
  | .lst l => match D.resAll st l with
    | some ds => if (PyData.list ds).showable && decide ((PyData.list ds).depth ≤ 64) && lineOk (PyData.list ds).shown.length then .ok (.val (.str (PyData.list ds).shown)) st else .stuck
    | none => .stuck
  | _ => .stuck
def rReprC (K : PySem.W.Frag) : List V → Hp → VK → Prop := fun xs H Q => ∃ a ys ds, xs = [.ref a] ∧ SqL K H a ys ∧ DpCAll K H ys ds ∧ (PyData.list ds).showable = true ∧ (PyData.list ds).depth ≤ 64 ∧ (PyData.list ds).shown.length ≤ sizeLine ∧ Q (.str (PyData.list ds).shown) H
theorem cr_reprC {X : Cx} (hg : X.A.guards = some []) (hu : X.A.units + 66 < cLine) (sm : SmK X.K) : CallR X (.builtin "repr") (rReprC X.K) := by
  intro pins s σ H vs us Q I r h
  obtain ⟨a, ys, ds, rfl, hs, ha, h1, h3, h4, q⟩ := h
  obtain ⟨u, rfl, ru⟩ := vals1 r
  cases (show u = Value.ref a from ru)
  have fin : ∀ h' tk u, (∀ b o, s.heap.get? b = some o → h'.get? b = some o) → EP X pins σ Q (.str (PyData.list ds).shown u) { s with heap := h', toks := tk } := fun h' tk u k => ⟨.str _, H, I.kept k, ⟨_, rfl⟩, q⟩
  obtain ⟨as, rd, hn⟩ := DpC.reads I sm (.list ds) (.ref a) (.ref a) (.lst hs ha) rfl
  exact PySem.repr_of_reads' rd h1 (fun _ => hn) hg (by omega) (fun _ _ e => e) (fun h' u tk k => fin h' tk u k) h4
mutual
theorem dpC_of {K : PySem.W.Frag} {pa : PAd} {g : Gh} {H : Hp} {st : Store} (sb : Sub g H) (so : StoR K pa g H st) : ∀ (d : D) (v : V) (x : PyData), d.res st = some x → RepV K pa g v d → DpC K H v x
  | .tup l, v, x, h, r => by
    obtain ⟨a, xs, rfl, h1, r1⟩ := r.tup_inv
    simp only [D.res] at h
    cases e : D.resAll st l with
    | none => rw [e] at h; cases h
    | some ys => rw [e] at h; cases h; exact .tup (sb.sqT h1) (dpCs_of sb so l xs ys e r1)
  | .lst l, v, x, h, r => by
    obtain ⟨a, xs, rfl, h1, r1⟩ := r.lst_inv
    simp only [D.res] at h
    cases e : D.resAll st l with
    | none => rw [e] at h; cases h
    | some ys => rw [e] at h; cases h; exact .lst (SqL.of (sb _ _ h1)) (dpCs_of sb so l xs ys e r1)
  | .cel i, v, x, h, r => by
    obtain ⟨a, rfl, h1⟩ := r.cel_inv
    simp only [D.res] at h
    cases e : st[i]? with
    | none => rw [e] at h; cases h
    | some c =>
      simp only [e] at h
      split at h
      rotate_left
      · cases h
      rename_i hc
      cases h
      obtain ⟨ps, h2, h3, h4⟩ := so.at_ i a c h1 e
      have key : ∀ (c : Cel) (vs : List V), (c.all fun p => p.2.rd) = true → RepVs K pa g vs (c.map (·.2)) → DpRAll K H vs (c.map fun p => p.2.py) := by
        intro c
        induction c with
        | nil => intro vs _ r; rw [r.inv_nil]; exact .nil
        | cons p c ih =>
          intro vs hc r
          rw [List.map_cons] at r
          obtain ⟨y, ys, rfl, r1, r2⟩ := r.inv_cons
          rw [List.all_cons, Bool.and_eq_true] at hc
          exact .cons (dpR_of sb _ _ hc.1 r1) (ih ys hc.2 r2)
      have := DpC.dic (K := K) (cs := c.map fun p => (p.1, p.2.py)) h2 (by rw [h3, List.map_map]; rfl) (by rw [List.map_map]; exact key c _ hc h4)
      rw [List.map_map] at this
      exact this
  | .non, v, x, h, r => by simp only [D.res, D.rd, if_true] at h; cases h; exact .old (dpR_of sb _ v rfl r)
  | .bl b, v, x, h, r => by simp only [D.res, D.rd, if_true] at h; cases h; exact .old (dpR_of sb _ v rfl r)
  | .int b, v, x, h, r => by simp only [D.res, D.rd, if_true] at h; cases h; exact .old (dpR_of sb _ v rfl r)
  | .str b, v, x, h, r => by simp only [D.res, D.rd, if_true] at h; cases h; exact .old (dpR_of sb _ v rfl r)
  | .scr l, v, x, h, r => by simp [D.res, D.rd] at h
  | .dic l, v, x, h, r => by
    simp only [D.res] at h
    split at h
    · rename_i hr; cases h; exact .old (dpR_of sb _ v hr r)
    · cases h
  | .fn l, v, x, h, r => by simp [D.res, D.rd] at h
  | .ty l, v, x, h, r => by simp [D.res, D.rd] at h
  | .clo l, v, x, h, r => by simp [D.res, D.rd] at h
  | .ins l _, v, x, h, r => by simp [D.res, D.rd] at h
theorem dpCs_of {K : PySem.W.Frag} {pa : PAd} {g : Gh} {H : Hp} {st : Store} (sb : Sub g H) (so : StoR K pa g H st) : ∀ (l : List D) (xs : List V) (ys : List PyData), D.resAll st l = some ys → RepVs K pa g xs l → DpCAll K H xs ys
  | [], xs, ys, h, r => by simp only [D.resAll] at h; cases h; rw [r.inv_nil]; exact .nil
  | d :: l, xs, ys, h, r => by
    obtain ⟨y, zs, rfl, r1, r2⟩ := r.inv_cons
    simp only [D.resAll] at h
    cases e1 : d.res st with
    | none => rw [e1] at h; cases h
    | some x =>
      cases e2 : D.resAll st l with
      | none => rw [e1, e2] at h; cases h
      | some qs => rw [e1, e2] at h; cases h; exact .cons (dpC_of sb so d y x e1 r1) (dpCs_of sb so l zs qs e2 r2)
end
section
variable {F : Fm} {X : Cx} {k : Nat} {e : Expr} {pos p : Pos} {f : Ev → M D}
theorem ok_reprC : OkC1 F (rReprC F.K) reprC := by
  intro g H σ st v d Q sb so rv q
  unfold reprC at q
  cases d with
  | lst l =>
    cases e : D.resAll st l with
    | none => simp only [e] at q; exact q.elim
    | some ds =>
      simp only [e] at q
      split at q
      rotate_left
      · exact q.elim
      rename_i h
      obtain ⟨h, h3⟩ := ba h
      obtain ⟨h1, h2⟩ := ba h
      obtain ⟨a, xs, rfl, q1, r1⟩ := rv.lst_inv sb
      exact ⟨a, xs, ds, rfl, SqL.of q1, dpCs_of sb so l xs ds e r1, h1, of_decide_eq_true h2, lineOk_le h3, q g H (Grow.refl g H) sb so _ (.str _)⟩
  | _ => exact (q : False).elim
theorem fReprC (hm : X.mg "repr" = none) (pe : PE X e (tQ F f)) (C : Ctx F X k) (hg : Gl X "repr" := by rfl) (hp : plainE e = true := by rfl) : PE X (.Call (.Name "repr" p) [e] [] pos) (tR F (op1 reprC f)) := pe_bi1 (cr_reprC C.gd C.u66 C.sm) (by rw [C.K]; exact ok_reprC) hg hm (by decide +kernel) (by decide) (by decide) hp pe
end
/-! ### facts by Bools -/
def exmBaseB (K : PySem.W.Frag) (xs : List Str) (Base : Str) : Bool := (List.range xs.length).all fun i => decide (PySem.W.exmOne K (.ref (He.ga K (xs.getD i Str.empty))) (.ref (He.ga K Base)) = some true)
theorem exm_base {K : PySem.W.Frag} {pa : PAd} {xs : List Str} {Base : Str} (h : exmBaseB K xs Base = true) (hA : pa.exA = xs.map (He.ga K)) : ∀ i C, pa.exA[i]? = some C → PySem.W.exmOne K (.ref C) (.ref (He.ga K Base)) = some ((fun _ => true : Nat → Bool) i) := fun i C hC => by
  obtain ⟨a1, a2, rfl⟩ := ga_at hA hC
  exact of_decide_eq_true (List.all_eq_true.mp h i (List.mem_range.mpr a1))
def fOkL (L : List (Str × List Str)) (n : Str) (j : Nat) : Bool := match L[j]? with
  | some p => decide (n ∈ p.2)
  | none => false
theorem fld_at {K : PySem.W.Frag} {pa : PAd} {L : List (Str × List Str)} (h : excsB K L = true) (hA : pa.exA = (L.map (·.1)).map (He.ga K)) (n : Str) : ∀ i C, pa.exA[i]? = some C → fOkL L n i = true → XfC K C ∧ PySem.W.findIn K (.ref C) n = some none := fun i C hC ho => by
  unfold fOkL at ho
  rw [hA, List.getElem?_map, List.getElem?_map] at hC
  cases e : L[i]? with
  | none => rw [e] at hC; cases hC
  | some p =>
    rw [e] at hC ho
    cases hC
    have E := excB_ok (List.all_eq_true.mp (ba h).1 p (List.mem_of_getElem? e))
    exact ⟨E.X, E.no n (of_decide_eq_true ho)⟩
theorem excW_of {P : Program} {w : World} {K : PySem.W.Frag} {mg : Str → Option Value} {base : Heap} {x qual : Str} {names ks : List Str} {st : Stmt} {fd : FuncData} {M : Addr} (E : ExcK K x names) (hm : mg x = some (.ref (He.ga K x))) (F : FunD K "__init__" qual (defArgs st) (defBody st) (defScope st) [] [] (He.ma K (He.ga K x) "__init__") fd)
    (B : BaseC K M) (hM : mg ("MinorError" : Str) = some (.ref M)) (hI : InitB names (defBody st)) (S : FnScope (("self" : Str) :: names) (("self" : Str) :: names) (defScope st)) (hgb : (defScope st).names.lookup ("MinorError" : Str) = some .globalImplicit) (hn : (names.all fun n => !(n == ("__debug__" : Str)) && !(n == ("__classdict__" : Str))) = true) (h1 : 1 ≤ names.length) (h9 : names.length ≤ 800)
    (hb : KwD K fd names ks) : ExcW P w K mg base x names ks :=
  ⟨E.T, hm, _, fd, E.iC, E.tI, ok_init (toFun F) E.T B hM hI S hgb (fun n hn' => by
    have := List.all_eq_true.mp hn n hn'
    simp only [Bool.and_eq_true, Bool.not_eq_true'] at this
    exact ⟨E.no n hn', this.1, this.2⟩) h1 h9, hb⟩
end Dn

set_option Elab.async false
set_option linter.all false
set_option maxRecDepth 100000
set_option maxHeartbeats 4000000
/-! slices; a, b = x, y with new lists; t + u of any tuples -/
namespace Dn
open PySem PySem.Spec PyProof.Rows L2
section
variable {F : Fm} {X : Cx} {k : Nat} {e a b : Expr} {lo hi : Option Expr} {pos p2 : Pos} {f : Ev → M D} {pl ph : Ev → M (Option Int)}
/-! ### slices -/
def cutD {α : Type} (l : List α) (lo hi : Option Int) : List α := (l.drop (HT.sIx l.length 0 lo)).take (HT.sIx l.length l.length hi - HT.sIx l.length 0 lo)
theorem cutD_rep {K : PySem.W.Frag} {pa : PAd} {g : Gh} {xs : List V} {ds : List D} (r : RepVs K pa g xs ds) (lo hi : Option Int) : RepVs K pa g (cutV xs lo hi) (cutD ds lo hi) := by
  have e : cutV xs lo hi = (xs.drop (HT.sIx ds.length 0 lo)).take (HT.sIx ds.length ds.length hi - HT.sIx ds.length 0 lo) := by unfold cutV; rw [r.1]
  rw [e]
  unfold cutD
  refine ⟨by rw [List.length_take, List.length_take, List.length_drop, List.length_drop, r.1], fun i x d h1 h2 => ?_⟩
  rw [List.getElem?_take] at h1 h2
  split at h1
  · rename_i hi
    rw [if_pos hi] at h2
    rw [List.getElem?_drop] at h1 h2
    exact r.2 _ x d h1 h2
  · cases h1
theorem cutD_whole {α : Type} {l : List α} {lo hi : Option Int} (h : HT.sIx l.length 0 lo = 0 ∧ HT.sIx l.length l.length hi = l.length) : cutD l lo hi = l := by
  unfold cutD
  rw [h.1, h.2]
  simp
def sliceM (d : D) (lo hi : Option Int) : M RV := match d with
  | .tup l => pure (.val (.tup (cutD l lo hi)))
  | .lst l => pure (.own (cutD l lo hi))
  | _ => stuck
def rSl2 (K : PySem.W.Frag) : V → Option Int → Option Int → Hp → VK → Prop := fun x lo hi H Q => rSlA K x lo hi H Q ∨ rSlL K x lo hi H Q
theorem sl_2 : SlR X (rSl2 X.K) := sl_tupA.or sl_list
theorem ok_sl2 {g : Gh} {H : Hp} {σ : L2.St} {st : Store} {x : V} {d : D} {lo hi : Option Int} {Q : VK} (sb : Sub g H) (so : StoR F.K F.pa g H st) (rx : RepQ F.K F.pa g H x d)
    (q : Post F g H σ (sliceM d lo hi st) fun rv g' H' _ => ∀ v, RVR F.K F.pa H g' H' v rv → Q v H') : rSl2 F.K x lo hi H Q := by
  unfold sliceM at q
  split at q
  · rename_i l
    obtain ⟨a, xs, rfl, h1, r1⟩ := (repq_tup rx).tup_inv
    refine .inl ⟨a, xs, rfl, sb.sqT h1, fun hw => ?_, fun _ p hp => ?_⟩
    · rw [r1.1] at hw
      have e := cutD_whole (l := l) hw
      rw [e] at q
      exact post_v sb so q (.tup' h1 r1)
    · have r2 := cutD_rep r1 lo hi
      exact q _ _ (grow_put sb hp) (sub_put sb) (sto_put so sb hp) _ (.tup' sqT_put (r2.le (le_put (sb.none hp))))
  · rename_i l
    obtain ⟨a, xs, rfl, h1, r1⟩ := rx.lst_inv sb
    refine .inr ⟨a, xs, rfl, SqL.of h1, fun p hp => ?_⟩
    have np := so.notNew hp
    exact q g _ ⟨Le.refl g, fun _ _ h => .inl h, fun _ h => .inl h, fun a u h _ _ => by rw [upd_ne (ne_of_none h hp)]; exact h, fun a u h => ⟨u, by rw [upd_ne (ne_of_none h hp)]; exact h⟩⟩
      (fun a u h => by rw [upd_ne (ne_of_none (sb a u h) hp)]; exact sb a u h) (so.keepAll (calm_new hp) fun a ha => upd_ne fun e => np (by rw [← e]; exact ha)) _ ⟨p, _, rfl, upd_same, cutD_rep r1 lo hi, sb.none hp, np, hp⟩
  · exact q.elim
/-- the parts -/
def tO (F : Fm) (f : Ev → M (Option Int)) : TO := fun σ H Q => ∃ g ρ st, SRel F g H σ ρ st ∧ Post F g H σ (f ρ st) fun o g' H' _ => Q o H'
def pN : Ev → M (Option Int) := fun _ => pure none
def pS (f : Ev → M D) : Ev → M (Option Int) := fun ρ => do
  let d ← f ρ
  match d with
  | .int i => pure (some i)
  | _ => stuck
theorem poN : PO X none (tO F pN) := ⟨fun pins s σ H Q I ⟨g, ρ, st, R, q⟩ => po_none.run pins s σ H Q I ((Post.pure (a := none) q R.sub R.sto))⟩
theorem poS (pe : PE X e (tQ F f)) : PO X (some e) (tO F (pS f)) := ⟨fun pins s σ H Q I ⟨g, ρ, st, R, q⟩ => by
  refine (po_some pe).run pins s σ H Q I ?_
  refine tQ.use R q fun d g1 H1 st1 v gr1 R1 rv q1 => ?_
  cases d with
  | int i => exact ⟨i, repq_int rv, (q1 : Post F g1 H1 σ ((pure (some i) : M (Option Int)) st1) _).pure R1.sub R1.sto⟩
  | _ => exact (q1 : False).elim⟩
theorem tO.use {α : Type} {f : Ev → M (Option Int)} {h : Option Int → M α} {σ : L2.St} {H : Hp} {g : Gh} {ρ : Ev} {st : Store} {k : α → Gh → Hp → Store → Prop} {Q : Option Int → Hp → Prop} (R : SRel F g H σ ρ st) (p : Post F g H σ ((f ρ >>= h) st) k)
    (c : ∀ d g' H' st', Grow g H g' H' → SRel F g' H' σ ρ st' → Post F g' H' σ (h d st') k → Q d H') : tO F f σ H Q := by
  refine ⟨g, ρ, st, R, p.bind.imp fun d g' H' st' gr sb so q => c d g' H' st' gr (R.grow gr sb so) q⟩
def slE (f : Ev → M D) (lo hi : Ev → M (Option Int)) : Ev → M RV := fun ρ => do
  let d ← f ρ
  let l ← lo ρ
  let h ← hi ρ
  sliceM d l h
theorem eSl (C : Ctx F X k) (pe : PE X e (tQ F f)) (hl : PO X lo (tO F pl)) (hh : PO X hi (tO F ph)) : PE X (.Subscript e (.Slice lo hi none p2) pos) (tR F (slE f pl ph)) := by
  refine PE.mono (fun σ H Q ⟨g, ρ, st, R, q⟩ => ?_) (pe_slice sl_2 pe hl hh)
  refine tQ.use R q fun d g1 H1 st1 x gr1 R1 rx q1 => ?_
  refine tO.use R1 q1 fun l g2 H2 st2 gr2 R2 q2 => ?_
  refine tO.use R2 q2 fun h g3 H3 st3 gr3 R3 q3 => ?_
  rw [C.K]
  refine ok_sl2 R3.sub R3.sto ((rx.grow gr2).grow gr3) (q3.imp fun r g' H' _ _ _ _ h v rv => h v (rv.base ((gr1.trans gr2).trans gr3)))
end
/-! ### a, b = x, y: new lists stay the frame's own -/
def sParR (i j : Nat) (f h : Ev → M RV) : SS := fun ρ st => onR ((do let x ← f ρ; let y ← h ρ; pure (x, y)) st) ρ fun p st' => if i < ρ.length ∧ j < ρ.length then .nx ((ρ.set i p.1.slot).set j p.2.slot) st' else .stuck
theorem tR.use {F : Fm} {α : Type} {f : Ev → M RV} {h : RV → M α} {σ : L2.St} {H : Hp} {g : Gh} {ρ : Ev} {st : Store} {k : α → Gh → Hp → Store → Prop} {Q : VK} (R : SRel F g H σ ρ st) (p : Post F g H σ ((f ρ >>= h) st) k)
    (c : ∀ d g' H' st' v, Grow g H g' H' → SRel F g' H' σ ρ st' → RVR F.K F.pa H g' H' v d → Post F g' H' σ (h d st') k → Q v H') : tR F f σ H Q := by
  refine ⟨g, ρ, st, R, p.bind.imp fun d g' H' st' gr sb so q v rv => c d g' H' st' v gr (R.grow gr sb so) rv q⟩
section
variable {F : Fm} {X : Cx} {D : Ends} {H : Hp} {σ : L2.St} {k : Nat} {a b : Expr} {pos : Pos} {x : Str} {r r' : Ev → M RV}
theorem sParR_mono {i j : Nat} {f h : Ev → M RV} (q : tS F (sParR i j f h) D σ H) : tPar i j (tCons (tR F f) (tCons (tR F h) tNil)) D σ H := by
  obtain ⟨g, ρ, st, R, q⟩ := q
  refine tR.use R (post_of R q) fun x g1 H1 st1 v gr1 R1 rv q1 => ?_
  refine tR.use R1 q1 fun y g2 H2 st2 w gr2 R2 rw' q2 => ?_
  obtain ⟨gr, R3, q3⟩ := (q2 : Post F g2 H2 σ ((pure (x, y) : M (RV × RV)) st2) _).pure R2.sub R2.sto
  refine ⟨v, w, rfl, ?_⟩
  split at q3
  · rename_i hij
    have A1 := R.setR gr1 R1 hij.1 rv
    have A2 := A1.setR gr2 (A1.grow gr2 R2.sub R2.sto) (by simpa using hij.2) rw'
    exact q3 g2 H2 _ (Le.refl _) A2
  · exact q3.elim
theorem zParR (C : Ctx F X k) (i j : Nat) {y : Str} {px py pt pt2 : Pos} {kt k2 : Nat} (pa : PE X a (tR F r)) (pb : PE X b (tR F r')) (hi : X.N[i]? = some x := by rfl) (hj : X.N[j]? = some y := by rfl) (hij : i ≠ j := by decide) (hx : X.env.scope.names.lookup x = some .local := by rfl) (hy : X.env.scope.names.lookup y = some .local := by rfl)
    (hpa : plainE a = true := by rfl) (hpb : plainE b = true := by rfl) (hw : swappedStores [.Tuple [.Name x px, .Name y py] kt pt] (.Tuple [a, b] k2 pt2) X.env = pure (some [x, y]) := by rfl) (hs : swapsWithSole [.Tuple [.Name x px, .Name y py] kt pt] (.Tuple [a, b] k2 pt2) pos.line X.env = pure false := by rfl) :
    PS X (.Assign [.Tuple [.Name x px, .Name y py] kt pt] (.Tuple [a, b] k2 pt2) pos) (tS F (sParR i j r r')) :=
  PS.mono (fun _ _ _ q => sParR_mono q) (ps_par C.calm C.nd hi hj hij hx hy (pa2 hpa hpb pa pb) hw hs)
/-! ### t + u -/
/-- two tuples, also empty ones; two lists, two ints as before -/
def addA : Dn.D → Dn.D → M RV
  | .tup l, .tup m => if lineOk (l.length + m.length) then pure (.val (.tup (l ++ m))) else stuck
  | d, e => addM d e
def rAddB (K : PySem.W.Frag) : R2 := fun x y H Q => rCatA K x y H Q ∨ rAddA K x y H Q
theorem ok_addA : Ok2 F (rAddB F.K) addA := by
  intro g H σ st x y d e Q sb so rx ry q
  unfold addA at q
  split at q
  · split at q
    rotate_left
    · exact q.elim
    rename_i l m h
    obtain ⟨a, xs, rfl, h1, r1⟩ := (repq_tup rx).tup_inv
    obtain ⟨b, ys, rfl, h2, r2⟩ := (repq_tup ry).tup_inv
    refine .inl ⟨a, b, xs, ys, rfl, rfl, sb.sqT h1, sb.sqT h2, by rw [r1.1, r2.1]; exact lineOk_le h, fun hx => ?_, fun hx hy => ?_, fun _ _ p hp => ?_⟩
    · subst hx
      have : l = [] := by have := r1.1; simpa using this.symm
      subst this
      rw [List.nil_append] at q
      exact post_v sb so q (.tup' h2 r2)
    · subst hy
      have : m = [] := by have := r2.1; simpa using this.symm
      subst this
      rw [List.append_nil] at q
      exact post_v sb so q (.tup' h1 r1)
    · exact q _ _ (grow_put sb hp) (sub_put sb) (sto_put so sb hp) _ (.tup' sqT_put ((r1.append r2).le (le_put (sb.none hp))))
  · exact .inr (ok_add g H σ st x y d e Q sb so rx ry q)
theorem bAddA (C : Ctx F X k) : BinR X F .Add addA := ⟨_, op_catA.or op_addA, by rw [C.K]; exact ok_addA⟩
end
end Dn

set_option Elab.async false
set_option linter.all false
set_option maxRecDepth 100000
set_option maxHeartbeats 4000000
/-! zip of a list and a tuple, either way -/
namespace Dn
open PySem PySem.Spec PyProof.Rows L2
namespace Zp
/-- the iterator of a list (true) or of a tuple, and what it goes over -/
def ItA (k : Bool) (h : Heap) (it l : Addr) (i : Nat) : Prop := match k with
  | true => h.IsListIter it l i
  | false => h.IsTupleIter it l i
def SeA (k : Bool) (h : Heap) (l : Addr) (xs : Array Value) : Prop := match k with
  | true => h.IsList l xs
  | false => h.IsTuple l xs
theorem ItA.mv {k : Bool} {h h' : Heap} {it l : Addr} {i : Nat} (a : ItA k h it l i) (b : ∀ o, h.get? it = some o → h'.get? it = some o) : ItA k h' it l i := by
  cases k with
  | true => exact (show h.IsListIter it l i from a).at b
  | false => exact (show h.IsTupleIter it l i from a).at b
theorem SeA.mv {k : Bool} {h h' : Heap} {l : Addr} {xs : Array Value} (a : SeA k h l xs) (b : ∀ o, h.get? l = some o → h'.get? l = some o) : SeA k h' l xs := by
  cases k with
  | true => exact (show h.IsList l xs from a).at b
  | false =>
    obtain ⟨o, h1, h2⟩ := (show h.IsTuple l xs from a)
    exact ⟨o, b o h1, h2⟩
theorem ItA.obj {k : Bool} {h : Heap} {it l : Addr} {i : Nat} (a : ItA k h it l i) : ∃ o, h.get? it = some o ∧ ∀ c, o.data ≠ .cell c := by
  cases k with
  | true =>
    obtain ⟨o, e, _, d⟩ := (show h.IsListIter it l i from a)
    exact ⟨o, e, fun v q => by rw [d] at q; cases q⟩
  | false =>
    obtain ⟨o, e, _, d⟩ := (show h.IsTupleIter it l i from a)
    exact ⟨o, e, fun v q => by rw [d] at q; cases q⟩
section
variable {prog : Program} {w : World} {A : Around} {E : Value → Shared → Prop} {s : Shared} {k : Bool}
theorem next_item {it l : Addr} {i : Nat} {items : Array Value} {x : Value} {Q : Value → Shared → Prop} (hit : ItA k s.heap it l i) (hl : SeA k s.heap l items) (hx : items[i]? = some x)
    (hQ : ∀ h', ItA k h' it l (i + 1) → Heap.SameBut it s.heap h' → Q x { s with heap := h' }) : wpAny (model prog w) A (Builtin.SmallTypes.nextOf (.ref it)) Q E s := by
  cases k with
  | true => exact wpAny_nextOf_list_item hit hl hx hQ
  | false => exact RZ.nextOf_tuple_item hit hl hx hQ
theorem next_end {it l : Addr} {i : Nat} {items : Array Value} {Q : Value → Shared → Prop} (hh : A.handled = none) (hit : ItA k s.heap it l i) (hl : SeA k s.heap l items) (hx : items[i]? = none)
    (hE : ∀ h' e, Heap.ExtBut it s.heap h' → (∃ o, h'.get? e = some o ∧ o.cls = .type "StopIteration") → E (.ref e) { s with heap := h' }) : wpAny (model prog w) A (Builtin.SmallTypes.nextOf (.ref it)) Q E s := by
  cases k with
  | true => exact wpAny_nextOf_list_end hh hit hl hx hE
  | false => exact RZ.nextOf_tuple_end hh hit hl hx hE
end
section
variable {prog : Program} {w : World} {A : Around} {E : Value → Shared → Prop} {s : Shared} {m n : Bool} {z TI TO p q u v : Addr} {i j : Nat} {xs ys : Array Value} {x y a b : Value}
theorem zip_item {Q : Value → Shared → Prop} (D : ZipApart z TI TO p q u v) (hz : IsZip s.heap z TI TO .none) (hTI : IsPair s.heap TI (.ref p) (.ref q)) (hTO : IsPair s.heap TO a b)
    (h1 : ItA m s.heap p u i) (h2 : ItA n s.heap q v j) (l1 : SeA m s.heap u xs) (l2 : SeA n s.heap v ys) (hx : xs[i]? = some x) (hy : ys[j]? = some y)
    (hQ : ∀ h', IsZip h' z TI TO (rawInt s.heap.objs.size) → IsPair h' TO x y → ItA m h' p u (i + 1) → ItA n h' q v (j + 1) → IsPair h' s.heap.objs.size x y → h'.objs.size = s.heap.objs.size + 1 →
      (∀ c o, c ≠ z → c ≠ TO → c ≠ p → c ≠ q → s.heap.get? c = some o → h'.get? c = some o) → Q (.ref s.heap.objs.size) { s with heap := h' }) :
    wpAny (model prog w) A (Builtin.«zip.__next__» ⟨[.ref z], []⟩) (fun fin s' => ∃ v, fin = .done (.ret v) ∧ Q v s') E s := by
  show wpAny _ _ (field (.ref z) 2 >>= _) _ _ _
  refine wpAny_bind (wpAny_field hz rfl (x := .bool false) rfl ?_)
  show wpAny _ _ (field (.ref z) 3 >>= _) _ _ _
  refine wpAny_bind (wpAny_field hz rfl (x := .ref TI) rfl (wpAny_bind (wpAny_seqItems hTI rfl ?_)))
  show wpAny _ _ (Builtin.SmallTypes.ownedTupleIsFree (.ref z) >>= _) _ _ _
  unfold Builtin.SmallTypes.ownedTupleIsFree
  refine wpAny_bind (wpAny_bind (wpAny_field hz rfl (x := .none) rfl (wpAny_pure ?_)))
  simp only [if_true]
  refine wpAny_bind (wpAny_rule (wpAny_bind (wpAny_field hz rfl (x := .ref TO) rfl (wpAny_bind (wpAny_setField_rec hz (by simp) fun g1 z1 e1 => wpAny_bind ?_)))))
  replace z1 : IsZip g1 z TI TO .ellipsis := z1
  simp only [List.zipIdx_cons, List.zipIdx_nil, List.forIn_cons, List.forIn_nil]
  refine wpAny_bind (wpAny_bind (wpAny_onRaise ?_))
  show wpAny _ _ (Builtin.SmallTypes.nextOf (.ref p) >>= _) _ _ _
  refine wpAny_bind (next_item (h1.mv fun o => e1.extBut _ o D.i1z) (l1.mv fun o => e1.extBut _ o D.l1z) hx fun g2 p2 e2 => wpAny_pure ?_)
  have t2 : IsPair g2 TO a b := e2.extBut _ _ D.TOi1 (e1.extBut _ _ D.TOz hTO)
  refine wpAny_bind (wpAny_seqItems t2 rfl (wpAny_bind (wpAny_updateSeq_pair t2 fun g3 t3 e3 => wpAny_bind (wpAny_letGo (wpAny_pure ?_)))))
  replace t3 : IsPair g3 TO x b := t3
  refine wpAny_bind (wpAny_bind (wpAny_onRaise ?_))
  show wpAny _ _ (Builtin.SmallTypes.nextOf (.ref q) >>= _) _ _ _
  have c13 : ∀ c o, c ≠ z → c ≠ p → c ≠ TO → s.heap.get? c = some o → g3.get? c = some o := fun c o a1 a2 a3 r => e3.extBut _ _ a3 (e2.extBut _ _ a2 (e1.extBut _ _ a1 r))
  refine wpAny_bind (next_item (h2.mv fun o => c13 _ o D.i2z D.i12.symm D.TOi2.symm) (l2.mv fun o => c13 _ o D.l2z D.l2i1 D.l2TO) hy fun g4 q4 e4 => wpAny_pure ?_)
  have t4 : IsPair g4 TO x b := e4.extBut _ _ D.TOi2 t3
  refine wpAny_bind (wpAny_seqItems t4 rfl (wpAny_bind (wpAny_updateSeq_pair t4 fun g5 t5 e5 => wpAny_bind (wpAny_letGo (wpAny_pure (wpAny_pure ?_))))))
  replace t5 : IsPair g5 TO x y := t5
  refine wpAny_bind (wpAny_seqItems t5 rfl (wpAny_bind (wpAny_newTuple ?_)))
  have sz : g5.objs.size = s.heap.objs.size := by rw [e5.1, e4.1, e3.1, e2.1, e1.1]
  have c15 : ∀ c o, c ≠ z → c ≠ TO → c ≠ p → c ≠ q → s.heap.get? c = some o → g5.get? c = some o := fun c o a1 a2 a3 a4 r => e5.extBut _ _ a2 (e4.extBut _ _ a4 (c13 c o a1 a3 a2 r))
  have z5 : IsZip g5 z TI TO .ellipsis := e5.extBut _ _ D.TOz.symm (e4.extBut _ _ D.i2z.symm (e3.extBut _ _ D.TOz.symm (e2.extBut _ _ D.i1z.symm z1)))
  have p5 : ItA m g5 p u (i + 1) := p2.mv fun o r => e5.extBut _ _ D.TOi1.symm (e4.extBut _ _ D.i12 (e3.extBut _ _ D.TOi1.symm r))
  have q5 : ItA n g5 q v (j + 1) := q4.mv fun o r => e5.extBut _ _ D.TOi2.symm r
  have zlt : z < g5.objs.size := Heap.lt_size z5
  show wpAny _ _ (Builtin.SmallTypes.ownedTupleHandOut (.ref z) (.ref g5.objs.size) >>= _) _ _ _
  unfold Builtin.SmallTypes.ownedTupleHandOut
  have z6 : IsZip (g5.push { cls := .type "tuple", data := .seq #[x, y] }) z TI TO .ellipsis := Heap.get?_push_of_some _ z5
  refine wpAny_bind (wpAny_bind (wpAny_setField_rec z6 (by simp) fun g7 z7 e7 => ?_))
  replace z7 : IsZip g7 z TI TO (rawInt g5.objs.size) := z7
  refine wpAny_setField_rec z7 (by simp) fun g8 z8 e8 => ?_
  replace z8 : IsZip g8 z TI TO (rawInt g5.objs.size) := z8
  have up : ∀ c o, c ≠ z → g5.get? c = some o → g8.get? c = some o := fun c o c1 r => e8.extBut _ _ c1 (e7.extBut _ _ c1 (Heap.get?_push_of_some _ r))
  have t8 : IsPair g8 g5.objs.size x y := e8.extBut _ _ (Nat.ne_of_gt zlt) (e7.extBut _ _ (Nat.ne_of_gt zlt) (Heap.get?_push_size _ rfl))
  have s8 : g8.objs.size = g5.objs.size + 1 := by rw [e8.1, e7.1, Heap.size_push]
  rw [sz] at z8 t8 s8
  refine wpAny_pure ⟨_, rfl, ?_⟩
  show Q (.ref g5.objs.size) _
  rw [sz]
  exact hQ g8 z8 (up _ _ D.TOz t5) (p5.mv fun o r => up _ o D.i1z r) (q5.mv fun o r => up _ o D.i2z r) t8 s8 fun c o c1 c2 c3 c4 r => up c o c1 (c15 c o c1 c2 c3 c4 r)
theorem zip_end {Q : PySem.Fin → Shared → Prop} (hh : A.handled = none) (D : ZipApart z TI TO p q u v) (hz : IsZip s.heap z TI TO .none) (hTI : IsPair s.heap TI (.ref p) (.ref q)) (hTO : IsPair s.heap TO a b)
    (h1 : ItA m s.heap p u i) (h2 : ItA n s.heap q v j) (l1 : SeA m s.heap u xs) (l2 : SeA n s.heap v ys) (hend : xs[i]? = none ∨ ys[j]? = none)
    (hE : ∀ h' e, (∀ c o, c ≠ z → c ≠ TO → c ≠ p → c ≠ q → s.heap.get? c = some o → h'.get? c = some o) → (∃ o, h'.get? e = some o ∧ o.cls = .type "StopIteration") → E (.ref e) { s with heap := h' }) :
    wpAny (model prog w) A (Builtin.«zip.__next__» ⟨[.ref z], []⟩) Q E s := by
  show wpAny _ _ (field (.ref z) 2 >>= _) _ _ _
  refine wpAny_bind (wpAny_field hz rfl (x := .bool false) rfl ?_)
  show wpAny _ _ (field (.ref z) 3 >>= _) _ _ _
  refine wpAny_bind (wpAny_field hz rfl (x := .ref TI) rfl (wpAny_bind (wpAny_seqItems hTI rfl ?_)))
  show wpAny _ _ (Builtin.SmallTypes.ownedTupleIsFree (.ref z) >>= _) _ _ _
  unfold Builtin.SmallTypes.ownedTupleIsFree
  refine wpAny_bind (wpAny_bind (wpAny_field hz rfl (x := .none) rfl (wpAny_pure ?_)))
  simp only [if_true]
  refine wpAny_bind (wpAny_rule (wpAny_bind (wpAny_field hz rfl (x := .ref TO) rfl (wpAny_bind (wpAny_setField_rec hz (by simp) fun g1 z1 e1 => wpAny_bind ?_)))))
  replace z1 : IsZip g1 z TI TO .ellipsis := z1
  simp only [List.zipIdx_cons, List.zipIdx_nil, List.forIn_cons, List.forIn_nil]
  refine wpAny_bind (wpAny_bind (wpAny_onRaise ?_))
  show wpAny _ _ (Builtin.SmallTypes.nextOf (.ref p) >>= _) _ _ _
  have k1 : ItA m g1 p u i := h1.mv fun o => e1.extBut _ o D.i1z
  have k2 : SeA m g1 u xs := l1.mv fun o => e1.extBut _ o D.l1z
  cases hx : xs[i]? with
  | none =>
    refine wpAny_bind (next_end hh k1 k2 hx fun g2 e e2 he => ?_)
    obtain ⟨oe, hoe, hce⟩ := he
    have z2 : IsZip g2 z TI TO .ellipsis := e2 _ _ D.i1z.symm z1
    have ne : e ≠ z := fun r => by subst r; rw [z2] at hoe; cases hoe; simp at hce
    exact wpAny_setField_rec z2 (by simp) fun g3 _ e3 => hE g3 e (fun c o c1 _ c3 _ r => e3.extBut _ _ c1 (e2 _ _ c3 (e1.extBut _ _ c1 r))) ⟨oe, e3.extBut _ _ ne hoe, hce⟩
  | some x =>
    have hy : ys[j]? = none := by
      rcases hend with h | h
      · rw [hx] at h; cases h
      · exact h
    refine wpAny_bind (next_item k1 k2 hx fun g2 p2 e2 => wpAny_pure ?_)
    have t2 : IsPair g2 TO a b := e2.extBut _ _ D.TOi1 (e1.extBut _ _ D.TOz hTO)
    refine wpAny_bind (wpAny_seqItems t2 rfl (wpAny_bind (wpAny_updateSeq_pair t2 fun g3 t3 e3 => wpAny_bind (wpAny_letGo (wpAny_pure ?_)))))
    refine wpAny_bind (wpAny_bind (wpAny_onRaise ?_))
    show wpAny _ _ (Builtin.SmallTypes.nextOf (.ref q) >>= _) _ _ _
    have c13 : ∀ c o, c ≠ z → c ≠ p → c ≠ TO → s.heap.get? c = some o → g3.get? c = some o := fun c o a1 a2 a3 r => e3.extBut _ _ a3 (e2.extBut _ _ a2 (e1.extBut _ _ a1 r))
    refine wpAny_bind (next_end hh (h2.mv fun o => c13 _ o D.i2z D.i12.symm D.TOi2.symm) (l2.mv fun o => c13 _ o D.l2z D.l2i1 D.l2TO) hy fun g4 e e4 he => ?_)
    obtain ⟨oe, hoe, hce⟩ := he
    have z4 : IsZip g4 z TI TO .ellipsis := e4 _ _ D.i2z.symm (e3.extBut _ _ D.TOz.symm (e2.extBut _ _ D.i1z.symm z1))
    have ne : e ≠ z := fun r => by subst r; rw [z4] at hoe; cases hoe; simp at hce
    exact wpAny_setField_rec z4 (by simp) fun g5 _ e5 => hE g5 e (fun c o c1 c2 c3 c4 r => e5.extBut _ _ c1 (e4 _ _ c4 (c13 c o c1 c3 c2 r))) ⟨oe, e5.extBut _ _ ne hoe, hce⟩
theorem py_item {Q : Option Value → Shared → Prop} (D : ZipApart z TI TO p q u v) (hz : IsZip s.heap z TI TO .none) (hTI : IsPair s.heap TI (.ref p) (.ref q)) (hTO : IsPair s.heap TO a b)
    (h1 : ItA m s.heap p u i) (h2 : ItA n s.heap q v j) (l1 : SeA m s.heap u xs) (l2 : SeA n s.heap v ys) (hx : xs[i]? = some x) (hy : ys[j]? = some y)
    (hQ : ∀ h', IsZip h' z TI TO (rawInt s.heap.objs.size) → IsPair h' TO x y → ItA m h' p u (i + 1) → ItA n h' q v (j + 1) → IsPair h' s.heap.objs.size x y → h'.objs.size = s.heap.objs.size + 1 →
      (∀ c o, c ≠ z → c ≠ TO → c ≠ p → c ≠ q → s.heap.get? c = some o → h'.get? c = some o) → Q (some (.ref s.heap.objs.size)) { s with heap := h' }) :
    wpAny (model prog w) A (pyNext (.ref z)) Q E s := by
  have hT : s.TypeIs (.ref z) "zip" := ⟨_, hz, rfl⟩
  unfold pyNext
  exact wpAny_bind (wpAny_attempt (wpAny_callSpecial?_slot (name := Str.ofString "__next__") hT F.slot_zip_next (wpAny_call_entry F.slot_zip_next hT F.entry_zip_next
    (zip_item D hz hTI hTO h1 h2 l1 l2 hx hy fun h' a1 a2 a3 a4 a5 a6 a7 => wpAny_pure (hQ h' a1 a2 a3 a4 a5 a6 a7)) (F.args_zip_next_1 _))))
theorem py_end {Q : Option Value → Shared → Prop} (hh : A.handled = none) (D : ZipApart z TI TO p q u v) (hz : IsZip s.heap z TI TO .none) (hTI : IsPair s.heap TI (.ref p) (.ref q)) (hTO : IsPair s.heap TO a b)
    (h1 : ItA m s.heap p u i) (h2 : ItA n s.heap q v j) (l1 : SeA m s.heap u xs) (l2 : SeA n s.heap v ys) (hend : xs[i]? = none ∨ ys[j]? = none)
    (hQ : ∀ h', (∀ c o, c ≠ z → c ≠ TO → c ≠ p → c ≠ q → s.heap.get? c = some o → h'.get? c = some o) → Q none { s with heap := h' }) : wpAny (model prog w) A (pyNext (.ref z)) Q E s := by
  have hT : s.TypeIs (.ref z) "zip" := ⟨_, hz, rfl⟩
  unfold pyNext
  refine wpAny_bind (wpAny_attempt (wpAny_callSpecial?_slot (name := Str.ofString "__next__") hT F.slot_zip_next (wpAny_call_entry F.slot_zip_next hT F.entry_zip_next
    (zip_end hh D hz hTI hTO h1 h2 l1 l2 hend fun h' e hk he => ?_) (F.args_zip_next_1 _))))
  obtain ⟨o, ho, hc⟩ := he
  exact wpAny_bind (wpAny_isInstance (T := "StopIteration") (b := true) ⟨o, ho, hc⟩ isSubtype_stop (wpAny_pure (hQ _ hk)))
end
/-! ### the zip itself -/
def itN (k : Bool) : String := if k then "list_iterator" else "tuple_iterator"
abbrev zH1 (m : Bool) (h : Heap) (u : Addr) : Heap := h.push { cls := .type (itN m), data := .fields #[.ref u, .int 0 0] }
abbrev zH2 (m n : Bool) (h : Heap) (u v : Addr) : Heap := (zH1 m h u).push { cls := .type (itN n), data := .fields #[.ref v, .int 0 0] }
abbrev zH3 (m n : Bool) (h : Heap) (u v : Addr) : Heap := (zH2 m n h u v).push { cls := .type "tuple", data := .seq #[.ref h.objs.size, .ref (zH1 m h u).objs.size] }
abbrev zH4 (m n : Bool) (h : Heap) (u v : Addr) : Heap := (zH3 m n h u v).push { cls := .type "tuple", data := .seq #[.none, .none] }
abbrev zH5 (m n : Bool) (h : Heap) (u v : Addr) : Heap := (zH4 m n h u v).push { cls := .type "zip", data := .fields #[.none, .bool false, .bool false, .ref (zH2 m n h u v).objs.size, .ref (zH3 m n h u v).objs.size] }
theorem new_LT (u v : Addr) (xs ys : Array Value) : Meets (Builtin.«zip.__new__» ⟨[.type "zip", .ref u, .ref v], []⟩) (fun _ R s => s.heap.IsList u xs ∧ s.heap.IsTuple v ys ∧ R (.ok (.ret (.ref (zH4 true false s.heap u v).objs.size))) { s with heap := zH5 true false s.heap u v }) :=
  .of_wp fun prog w A R s h => by
    obtain ⟨hp, g, d, tk, os⟩ := s; obtain ⟨h1, h2, h⟩ := h
    have f0 := sub_zip
    have L1 : Heap.IsList (Shared.heap ⟨hp, g, d, tk, os⟩) u xs := h1
    have L2 : Heap.IsTuple (Shared.heap ⟨hp.push { cls := .type "list_iterator", data := .fields #[.ref u, .int 0 0] }, g, d, tk, os⟩) v ys := Heap.IsTuple.push h2 _
    wp_walk using wpAny_pyIter_list L1, wpAny_pyIter_tuple L2
    exact ⟨_, rfl, h⟩
theorem new_TL (u v : Addr) (xs ys : Array Value) : Meets (Builtin.«zip.__new__» ⟨[.type "zip", .ref u, .ref v], []⟩) (fun _ R s => s.heap.IsTuple u xs ∧ s.heap.IsList v ys ∧ R (.ok (.ret (.ref (zH4 false true s.heap u v).objs.size))) { s with heap := zH5 false true s.heap u v }) :=
  .of_wp fun prog w A R s h => by
    obtain ⟨hp, g, d, tk, os⟩ := s; obtain ⟨h1, h2, h⟩ := h
    have f0 := sub_zip
    have L1 : Heap.IsTuple (Shared.heap ⟨hp, g, d, tk, os⟩) u xs := h1
    have L2 : Heap.IsList (Shared.heap ⟨hp.push { cls := .type "tuple_iterator", data := .fields #[.ref u, .int 0 0] }, g, d, tk, os⟩) v ys := Heap.IsList.push h2 _
    wp_walk using wpAny_pyIter_tuple L1, wpAny_pyIter_list L2
    exact ⟨_, rfl, h⟩
section
variable {prog : Program} {w : World} {A : Around} {E : Value → Shared → Prop} {s : Shared} {u v : Addr} {xs ys : Array Value} {Q : Value → Shared → Prop}
/-- what stands when the zip has been made -/
def Made (m n : Bool) (s : Shared) (u v : Addr) (Q : Value → Shared → Prop) : Prop := ∀ h', IsZip h' (s.heap.objs.size + 4) (s.heap.objs.size + 2) (s.heap.objs.size + 3) .none → IsPair h' (s.heap.objs.size + 2) (.ref s.heap.objs.size) (.ref (s.heap.objs.size + 1)) →
  IsPair h' (s.heap.objs.size + 3) .none .none → ItA m h' s.heap.objs.size u 0 → ItA n h' (s.heap.objs.size + 1) v 0 → (∀ c o, s.heap.get? c = some o → h'.get? c = some o) → Q (.ref (s.heap.objs.size + 4)) { s with heap := h' }
theorem made_of {m n : Bool} (h : Made m n s u v Q) : Q (.ref (zH4 m n s.heap u v).objs.size) { s with heap := zH5 m n s.heap u v } := by
  have z1 : (zH1 m s.heap u).objs.size = s.heap.objs.size + 1 := Heap.size_push ..
  have z2 : (zH2 m n s.heap u v).objs.size = s.heap.objs.size + 2 := by rw [Heap.size_push, z1]
  have z3 : (zH3 m n s.heap u v).objs.size = s.heap.objs.size + 3 := by rw [Heap.size_push, z2]
  have z4 : (zH4 m n s.heap u v).objs.size = s.heap.objs.size + 4 := by rw [Heap.size_push, z3]
  have a5 : (zH5 m n s.heap u v).get? (zH4 m n s.heap u v).objs.size = some _ := Heap.get?_push_size _ rfl
  have a4 : (zH5 m n s.heap u v).get? (zH3 m n s.heap u v).objs.size = some _ := Heap.get?_push_of_some _ (Heap.get?_push_size _ rfl)
  have a3 : (zH5 m n s.heap u v).get? (zH2 m n s.heap u v).objs.size = some _ := Heap.get?_push_of_some _ (Heap.get?_push_of_some _ (Heap.get?_push_size _ rfl))
  have a2 : (zH5 m n s.heap u v).get? (zH1 m s.heap u).objs.size = some _ := Heap.get?_push_of_some _ (Heap.get?_push_of_some _ (Heap.get?_push_of_some _ (Heap.get?_push_size _ rfl)))
  have a1 : (zH5 m n s.heap u v).get? s.heap.objs.size = some _ := Heap.get?_push_of_some _ (Heap.get?_push_of_some _ (Heap.get?_push_of_some _ (Heap.get?_push_of_some _ (Heap.get?_push_size _ rfl))))
  rw [z2, z3, z4] at a5
  rw [z1, z2] at a3
  rw [z3] at a4
  rw [z1] at a2
  rw [z4]
  refine h _ a5 a3 a4 ?_ ?_ fun c o x => Heap.get?_push_of_some _ (Heap.get?_push_of_some _ (Heap.get?_push_of_some _ (Heap.get?_push_of_some _ (Heap.get?_push_of_some _ x))))
  · cases m <;> exact ⟨_, a1, rfl, rfl⟩
  · cases n <;> exact ⟨_, a2, rfl, rfl⟩
theorem call_LT (h1 : s.heap.IsList u xs) (h2 : s.heap.IsTuple v ys) (h : Made true false s u v Q) : wpAny (model prog w) A (call (.type "zip") [.ref u, .ref v]) Q E s :=
  callType_new F.called_zip (by decide) (F.typeCall_zip_2 _ _) (F.newCall_zip_2 _ _) (fun obj => F.args_object_init_3 obj _ _) F.entry_zip_new (new_LT u v xs ys) ⟨h1, h2, by
    show _ ∧ _
    exact ⟨⟨_, by rw [show (zH4 true false s.heap u v).objs.size = _ from rfl]; exact Heap.get?_push_size _ rfl, rfl⟩, made_of h⟩⟩
theorem call_TL (h1 : s.heap.IsTuple u xs) (h2 : s.heap.IsList v ys) (h : Made false true s u v Q) : wpAny (model prog w) A (call (.type "zip") [.ref u, .ref v]) Q E s :=
  callType_new F.called_zip (by decide) (F.typeCall_zip_2 _ _) (F.newCall_zip_2 _ _) (fun obj => F.args_object_init_3 obj _ _) F.entry_zip_new (new_TL u v xs ys) ⟨h1, h2, by
    show _ ∧ _
    exact ⟨⟨_, by rw [show (zH4 false true s.heap u v).objs.size = _ from rfl]; exact Heap.get?_push_size _ rfl, rfl⟩, made_of h⟩⟩
end
end Zp
end Dn

set_option Elab.async false
set_option linter.all false
set_option maxRecDepth 100000
set_option maxHeartbeats 4000000
/-! zip of a list and a tuple: the rule -/
namespace Dn
open PySem PySem.Spec PyProof.Rows L2
namespace Zp
def SqA (k : Bool) (K : PySem.W.Frag) (H : Hp) (a : Addr) (xs : List V) : Prop := match k with
  | true => SqL K H a xs
  | false => SqT K H a xs
theorem SqA.at {k : Bool} {X : Cx} {pins : List (Addr × Obj)} {σ : L2.St} {H : Hp} {s : Shared} {a : Addr} {xs : List V} (I : L2.Inv X pins σ H s) (h : SqA k X.K H a xs) : ∃ its : List Value, Vals xs its ∧ SeA k s.heap a its.toArray := by
  cases k with
  | true =>
    obtain ⟨its, rv, p, _⟩ := I.list h
    exact ⟨its, rv, p.isList⟩
  | false =>
    obtain ⟨its, rv, p, _⟩ := I.tuple h
    exact ⟨its, rv, p⟩
theorem SqA.inj {k : Bool} {X : Cx} {pins : List (Addr × Obj)} {σ : L2.St} {H : Hp} {s : Shared} {a : Addr} {xs ys : List V} (I : L2.Inv X pins σ H s) (h : SqA k X.K H a xs) (h' : SqA k X.K H a ys) : xs = ys := by
  cases k with
  | true => exact I.list_inj h h'
  | false => exact I.tuple_inj h h'
/-- the two as they stand at each turn, the items in new pairs -/
def ItzA (m n : Bool) (K : PySem.W.Frag) (a b : Addr) : It :=
  ⟨fun i H => ∃ (xs ys : List V) (x y : V), SqA m K H a xs ∧ SqA n K H b ys ∧ xs[i]? = some x ∧ ys[i]? = some y,
    fun i H v H' => ∃ T x y, v = .ref T ∧ H T = none ∧ H' = upd H T (.tup [x, y]) ∧ (∀ xs, SqA m K H a xs → xs[i]? = some x) ∧ ∀ ys, SqA n K H b ys → ys[i]? = some y,
    fun i H => ∃ xs ys : List V, SqA m K H a xs ∧ SqA n K H b ys ∧ (xs.length ≤ i ∨ ys.length ≤ i)⟩
theorem turn_zipA {m n : Bool} {P : Program} {w : World} {K : PySem.W.Frag} {elts : List Expr} {kk : Nat} {tpos : Pos} {a b z TI TO p q : Addr} (D : ZipApart z TI TO p q a b) :
    Turn P w K (.Tuple elts kk tpos) (ItzA m n K a b) [z, TI, TO, p, q] z (fun i h => IsZip h z TI TO .none ∧ IsPair h TI (.ref p) (.ref q) ∧ (∃ x y, IsPair h TO x y) ∧ ItA m h p a i ∧ ItA n h q b i) where
  mem := by simp
  obj := fun i h st c hc => by
    obtain ⟨hz, hTI, ⟨x, y, hTO⟩, h1, h2⟩ := st
    have e' : c = z ∨ c = TI ∨ c = TO ∨ c = p ∨ c = q := by simpa using hc
    rcases e' with r | r | r | r | r
    · rw [r]; exact ⟨_, hz, fun v q => nomatch q⟩
    · rw [r]; exact ⟨_, hTI, fun v q => nomatch q⟩
    · rw [r]; exact ⟨_, hTO, fun v q => nomatch q⟩
    · rw [r]; exact h1.obj
    · rw [r]; exact h2.obj
  keep := fun i h h' st k => by
    obtain ⟨hz, hTI, ⟨x, y, hTO⟩, h1, h2⟩ := st
    exact ⟨k z (by simp) _ hz, k TI (by simp) _ hTI, ⟨x, y, k TO (by simp) _ hTO⟩, h1.mv fun o r => k p (by simp) o r, h2.mv fun o r => k q (by simp) o r⟩
  item := by
    intro X hP hw hK hc i pins s σ H E I hf st hg
    subst hP hw hK
    obtain ⟨hz, hTI, ⟨x0, y0, hTO⟩, h1, h2⟩ := st
    obtain ⟨xs, ys, x, y, hqx, hqy, hx, hy⟩ := hg
    obtain ⟨its, rv, l1⟩ := hqx.at I
    obtain ⟨its2, rv2, l2⟩ := hqy.at I
    obtain ⟨u, hu, ru⟩ := rv.get hx
    obtain ⟨u2, hu2, ru2⟩ := rv2.get hy
    have zl : z < s.heap.objs.size := Heap.lt_size hz
    refine py_item D hz hTI hTO h1 h2 l1 l2 (x := u) (y := u2) (by simpa using hu) (by simpa using hu2) fun h' z' TO' h1' h2' hT hsz hk => ?_
    refine ⟨_, rfl, wpAny_letOwnedTupleGo_zip (s := { s with heap := h' }) z' fun h'' z'' sb => ?_⟩
    have hT2 : h''.get? s.heap.objs.size = some { cls := .type "tuple", data := .seq #[u, u2] } := (sb.2 _ (Nat.ne_of_gt zl)).trans hT
    have new : ObjOk X.prog X.w (upd H s.heap.objs.size (.tup [x, y])) h'' s.heap.objs.size (.tup [x, y]) := ⟨by show 2 ≤ sizeLine; decide, [u, u2], .cons ru (.cons ru2 .nil), ⟨_, hT2, rfl, _, rfl⟩⟩
    have I1 : L2.Inv X pins σ (upd H s.heap.objs.size (.tup [x, y])) { s with heap := h'' } :=
      I.turnedNew (t' := s.toks) (ch := [z, TI, TO, p, q]) (fun c o hb r => (sb.2 c (fun q' => hb (by simp [q']))).trans (hk c o (fun q' => hb (by simp [q'])) (fun q' => hb (by simp [q'])) (fun q' => hb (by simp [q'])) (fun q' => hb (by simp [q'])) r)) hf (Nat.le_refl _) new
    refine ⟨.ref s.heap.objs.size, _, I1, rfl, ⟨_, x, y, rfl, I.hok.fresh (Nat.le_refl _), rfl, fun l hl => by rw [hl.inj I hqx]; exact hx, fun l hl => by rw [hl.inj I hqy]; exact hy⟩, ⟨z'', ?_, ⟨u, u2, ?_⟩, ?_, ?_⟩, fun c hcm => ?_⟩
    · exact (sb.2 _ D.TIz).trans (hk _ _ D.TIz D.TITO D.TIi1 D.TIi2 hTI)
    · exact (sb.2 _ D.TOz).trans TO'
    · exact h1'.mv fun o r => (sb.2 _ D.i1z).trans r
    · exact h2'.mv fun o r => (sb.2 _ D.i2z).trans r
    · have hlt : c < s.heap.objs.size := by
        have e' : c = z ∨ c = TI ∨ c = TO ∨ c = p ∨ c = q := by simpa using hcm
        rcases e' with r | r | r | r | r
        · rw [r]; exact zl
        · rw [r]; exact Heap.lt_size hTI
        · rw [r]; exact Heap.lt_size hTO
        · rw [r]; obtain ⟨_, e1, _⟩ := h1.obj; exact Heap.lt_size e1
        · rw [r]; obtain ⟨_, e2, _⟩ := h2.obj; exact Heap.lt_size e2
      rw [upd_ne (Nat.ne_of_lt hlt)]
      exact (hf c hcm).1
  done := by
    intro X hP hw hK hc i pins s σ H E I hf st hg
    subst hP hw hK
    obtain ⟨hz, hTI, ⟨x0, y0, hTO⟩, h1, h2⟩ := st
    obtain ⟨xs, ys, hqx, hqy, hend⟩ := hg
    obtain ⟨its, rv, l1⟩ := hqx.at I
    obtain ⟨its2, rv2, l2⟩ := hqy.at I
    have n1 := rv.length
    have n2 := rv2.length
    have he : its.toArray[i]? = none ∨ its2.toArray[i]? = none := by
      rcases hend with r | r
      · exact .inl (by simp; omega)
      · exact .inr (by simp; omega)
    exact py_end (I.ok.hd hc) D hz hTI hTO h1 h2 l1 l2 he fun h' hk => ⟨rfl, I.turnedL (t' := s.toks) (ch := [z, TI, TO, p, q]) (fun c o hb r =>
      hk c o (fun q' => hb (by simp [q'])) (fun q' => hb (by simp [q'])) (fun q' => hb (by simp [q'])) (fun q' => hb (by simp [q'])) r) hf⟩
  self := fun A i s Q E st h => wpAny_pyIter_zip st.1 h
end Zp
open Zp
/-- zip of two of one kind, or of a list and a tuple -/
def iZipM (K : PySem.W.Frag) (ta : TA) : TI := fun σ H R => ta σ H fun vs H1 => ∃ a b xs ys, vs = [.ref a, .ref b] ∧ ((SqL K H1 a xs ∧ SqL K H1 b ys ∧ R (Itz K a b) H1) ∨ (SqT K H1 a xs ∧ SqT K H1 b ys ∧ R (RZ.ItzT K a b) H1) ∨
  (SqL K H1 a xs ∧ SqT K H1 b ys ∧ R (ItzA true false K a b) H1) ∨ (SqT K H1 a xs ∧ SqL K H1 b ys ∧ R (ItzA false true K a b) H1))
theorem pi_zipM {X : Cx} {e e2 : Expr} {ta : TA} {p pos tpos : Pos} {elts : List Expr} {kk : Nat} (hg : Gl X "zip") (hm : X.mg "zip" = none) (ha : PA X [e, e2] ta)
    (hs : starEach [e, e2] X.env = (false, eval e X.env) :: starEach [e2] X.env) (hpl : (backTo pos (starEach [e2] X.env)).any (·.1) = false) :
    PI X (.Tuple elts kk tpos) (.Call (.Name "zip" p) [e, e2] [] pos) (iZipM X.K ta) := by
  refine ⟨fun pins s σ H R I h => ?_⟩
  refine Call_ (ld_blt I hg hm PyProof.Rows.boot_zip (PyProof.Rows.callWith_type1 (thn (ha.run pos pins s σ H _ I h) fun us s1 ⟨vs, H1, I1, r1, q1⟩ => ?_) hs hpl))
  obtain ⟨a, b, xs, ys, ex, q1⟩ := q1
  subst ex
  cases r1 with
  | cons r rr =>
    cases rr with
    | cons r' rr =>
      cases rr
      cases r
      cases r'
      have fresh : ∀ c, c ∈ [s1.heap.objs.size + 4, s1.heap.objs.size + 2, s1.heap.objs.size + 3, s1.heap.objs.size, s1.heap.objs.size + 1] → FpOk X pins H1 c := fun c hcm => by
        have hle : s1.heap.objs.size ≤ c := by
          simp only [List.mem_cons, List.not_mem_nil, or_false] at hcm
          omega
        exact I1.fpOk hle (I1.hok.fresh hle)
      have ltA : ∀ {k : Bool} {l : Addr} {zs : List V}, SqA k X.K H1 l zs → l < s1.heap.objs.size := fun {k l zs} h => by
        obtain ⟨its, _, q⟩ := h.at I1
        cases k with
        | true =>
          obtain ⟨o, e, _⟩ := (show s1.heap.IsList l its.toArray from q)
          exact Heap.lt_size e
        | false =>
          obtain ⟨o, e, _⟩ := (show s1.heap.IsTuple l its.toArray from q)
          exact Heap.lt_size e
      rcases q1 with ⟨hqx, hqy, q⟩ | ⟨hqx, hqy, q⟩ | ⟨hqx, hqy, q⟩ | ⟨hqx, hqy, q⟩
      · obtain ⟨its, rv, p1, _⟩ := I1.list hqx
        obtain ⟨its2, rv2, p2, _⟩ := I1.list hqy
        refine call_zip_2 p1.isList p2.isList fun h' hz hTI hTO h1 h2 hsz hk => wpAny_pyIter_zip hz ?_
        have I2 : L2.Inv X pins σ H1 { s1 with heap := h' } := I1.kept (t' := s1.toks) hk
        exact ⟨s1.heap.objs.size + 4, [s1.heap.objs.size + 4, s1.heap.objs.size + 2, s1.heap.objs.size + 3, s1.heap.objs.size, s1.heap.objs.size + 1], _, _, H1, rfl, I2, turn_zip (PySem.W.ktu_apart s1.heap.objs.size a b p1.lt p2.lt), ⟨hz, hTI, ⟨_, _, hTO⟩, h1, h2⟩, fresh, q⟩
      · obtain ⟨its, rv, p1, _⟩ := I1.tuple hqx
        obtain ⟨its2, rv2, p2, _⟩ := I1.tuple hqy
        refine RZ.call_zipT (show s1.heap.IsTuple a its.toArray from p1) (show s1.heap.IsTuple b its2.toArray from p2) fun h' hz hTI hTO h1 h2 hsz hk => wpAny_pyIter_zip hz ?_
        have I2 : L2.Inv X pins σ H1 { s1 with heap := h' } := I1.kept (t' := s1.toks) hk
        exact ⟨s1.heap.objs.size + 4, [s1.heap.objs.size + 4, s1.heap.objs.size + 2, s1.heap.objs.size + 3, s1.heap.objs.size, s1.heap.objs.size + 1], _, _, H1, rfl, I2, RZ.turn_zipT (PySem.W.ktu_apart s1.heap.objs.size a b (ltA (k := false) hqx) (ltA (k := false) hqy)), ⟨hz, hTI, ⟨_, _, hTO⟩, h1, h2⟩, fresh, q⟩
      · obtain ⟨its, rv, p1, _⟩ := I1.list hqx
        obtain ⟨its2, rv2, p2, _⟩ := I1.tuple hqy
        refine call_LT p1.isList (show s1.heap.IsTuple b its2.toArray from p2) fun h' hz hTI hTO h1 h2 hk => wpAny_pyIter_zip hz ?_
        have I2 : L2.Inv X pins σ H1 { s1 with heap := h' } := I1.kept (t' := s1.toks) hk
        exact ⟨s1.heap.objs.size + 4, [s1.heap.objs.size + 4, s1.heap.objs.size + 2, s1.heap.objs.size + 3, s1.heap.objs.size, s1.heap.objs.size + 1], _, _, H1, rfl, I2, turn_zipA (m := true) (n := false) (PySem.W.ktu_apart s1.heap.objs.size a b (ltA (k := true) hqx) (ltA (k := false) hqy)), ⟨hz, hTI, ⟨_, _, hTO⟩, h1, h2⟩, fresh, q⟩
      · obtain ⟨its, rv, p1, _⟩ := I1.tuple hqx
        obtain ⟨its2, rv2, p2, _⟩ := I1.list hqy
        refine call_TL (show s1.heap.IsTuple a its.toArray from p1) p2.isList fun h' hz hTI hTO h1 h2 hk => wpAny_pyIter_zip hz ?_
        have I2 : L2.Inv X pins σ H1 { s1 with heap := h' } := I1.kept (t' := s1.toks) hk
        exact ⟨s1.heap.objs.size + 4, [s1.heap.objs.size + 4, s1.heap.objs.size + 2, s1.heap.objs.size + 3, s1.heap.objs.size, s1.heap.objs.size + 1], _, _, H1, rfl, I2, turn_zipA (m := false) (n := true) (PySem.W.ktu_apart s1.heap.objs.size a b (ltA (k := false) hqx) (ltA (k := true) hqy)), ⟨hz, hTI, ⟨_, _, hTO⟩, h1, h2⟩, fresh, q⟩
/-- zip, the mirror -/
def zipA : D → D → M (List Dn.D)
  | .lst a, .lst b => pure (List.zipWith (fun x y => .tup [x, y]) a b)
  | .tup a, .tup b => pure (List.zipWith (fun x y => .tup [x, y]) a b)
  | .lst a, .tup b => pure (List.zipWith (fun x y => .tup [x, y]) a b)
  | .tup a, .lst b => pure (List.zipWith (fun x y => .tup [x, y]) a b)
  | _, _ => stuck
def itZA (f f' : Ev → M D) : Ev → M (List D) := fun ρ => do let d ← f ρ; let e ← f' ρ; zipA d e
section
variable {F : Fm} {X : Cx} {a b : Expr} {p pos tpos : Pos}
theorem it_zipAQ (hK : X.K = F.K) {elts : List Expr} {kk : Nat} {f f' : Ev → M Dn.D} (hg : Gl X "zip") (hm : X.mg "zip" = none) (hp : plainE a = true) (hp' : plainE b = true) (pe : PE X a (tQ F f)) (pe' : PE X b (tQ F f')) :
    ItE F X true (.Tuple elts kk tpos) (.Call (.Name "zip" p) [a, b] [] pos) (itZA f f') := by
  refine ⟨_, pi_zipM hg hm (pa2 hp hp' pe pe') (star_cons hp X.env) (st1 hp'), fun σ H g ρ st R h k SR q c => ?_⟩
  have q : Post F g H σ ((f ρ >>= fun d => f' ρ >>= fun e => zipA d e >>= h) st) k := by rw [← it_bind2]; exact q
  refine tQ.use SR q fun d g1 H1 st1 x gr1 R1 rx q1 => ?_
  refine tQ.use R1 q1 fun e g2 H2 st2 y gr2 R2 ry q2 => ?_
  rw [hK]
  have rx := rx.grow gr2
  have key : ∀ {d : Dn.D} {v : V}, RepQ F.K F.pa g2 H2 v d → ∀ l, d = .lst l → ∃ a xs, v = .ref a ∧ RepVs F.K F.pa g2 xs l ∧ ∀ (g : Gh) (H : Hp), Grow g2 H2 g H → Sub g H → SqL F.K H a xs := by
    intro d v rv l el
    subst el
    rcases rv with rv | ⟨a, xs, ds, rfl, ed, h1, h2, r1⟩
    · obtain ⟨a, xs, rfl, h1, r1⟩ := rv.lst_inv
      exact ⟨a, xs, rfl, r1, fun g H gr sb => SqL.of (sb _ _ (gr.le.fz _ _ h1))⟩
    · cases ed
      exact ⟨a, xs, rfl, r1, fun g H gr sb => SqL.of (gr.keep _ _ h1 h2 (fun ps w => by cases w))⟩
  have keyT : ∀ {d : Dn.D} {v : V}, RepQ F.K F.pa g2 H2 v d → ∀ l, d = .tup l → ∃ a xs, v = .ref a ∧ RepVs F.K F.pa g2 xs l ∧ ∀ (g : Gh) (H : Hp), Grow g2 H2 g H → Sub g H → SqT F.K H a xs := by
    intro d v rv l el
    subst el
    obtain ⟨a, xs, rfl, h1, r1⟩ := (repq_tup rv).tup_inv
    exact ⟨a, xs, rfl, r1, fun g H gr sb => sb.sqT (sqT_le gr.le.fz h1)⟩
  unfold zipA at q2
  split at q2
  · obtain ⟨a1, xs, rfl, r1, k1⟩ := key rx _ rfl
    obtain ⟨a2, ys, rfl, r2, k2⟩ := key ry _ rfl
    refine ⟨a1, a2, xs, ys, rfl, .inl ⟨k1 g2 H2 (Grow.refl _ _) R2.sub, k2 g2 H2 (Grow.refl _ _) R2.sub, ?_⟩⟩
    refine c _ g2 H2 st2 _ (gr1.trans gr2) R2 ?_ q2
    exact itd_zip (go' := fun _ _ => True) (S := fun H a xs => SqL F.K H a xs) (S' := fun H a xs => SqL F.K H a xs) _ (fun _ _ => rfl) (fun _ _ => rfl) (fun _ _ _ _ => rfl) (fun g H z sb => k1 g H (by rw [if_pos rfl] at z; exact z) sb) (fun g H z sb => k2 g H (by rw [if_pos rfl] at z; exact z) sb) (fun g H z => by rw [if_pos rfl] at z; exact z.le) r1 r2
  · obtain ⟨a1, xs, rfl, r1, k1⟩ := keyT rx _ rfl
    obtain ⟨a2, ys, rfl, r2, k2⟩ := keyT ry _ rfl
    refine ⟨a1, a2, xs, ys, rfl, .inr (.inl ⟨k1 g2 H2 (Grow.refl _ _) R2.sub, k2 g2 H2 (Grow.refl _ _) R2.sub, ?_⟩)⟩
    refine c _ g2 H2 st2 _ (gr1.trans gr2) R2 ?_ q2
    exact itd_zip (go' := fun _ _ => True) (S := fun H a xs => SqT F.K H a xs) (S' := fun H a xs => SqT F.K H a xs) _ (fun _ _ => rfl) (fun _ _ => rfl) (fun _ _ _ _ => rfl) (fun g H z sb => k1 g H (by rw [if_pos rfl] at z; exact z) sb) (fun g H z sb => k2 g H (by rw [if_pos rfl] at z; exact z) sb) (fun g H z => by rw [if_pos rfl] at z; exact z.le) r1 r2
  · obtain ⟨a1, xs, rfl, r1, k1⟩ := key rx _ rfl
    obtain ⟨a2, ys, rfl, r2, k2⟩ := keyT ry _ rfl
    refine ⟨a1, a2, xs, ys, rfl, .inr (.inr (.inl ⟨k1 g2 H2 (Grow.refl _ _) R2.sub, k2 g2 H2 (Grow.refl _ _) R2.sub, ?_⟩))⟩
    refine c _ g2 H2 st2 _ (gr1.trans gr2) R2 ?_ q2
    exact itd_zip (go' := fun _ _ => True) (S := fun H a xs => SqA true F.K H a xs) (S' := fun H a xs => SqA false F.K H a xs) _ (fun _ _ => rfl) (fun _ _ => rfl) (fun _ _ _ _ => rfl) (fun g H z sb => k1 g H (by rw [if_pos rfl] at z; exact z) sb) (fun g H z sb => k2 g H (by rw [if_pos rfl] at z; exact z) sb) (fun g H z => by rw [if_pos rfl] at z; exact z.le) r1 r2
  · obtain ⟨a1, xs, rfl, r1, k1⟩ := keyT rx _ rfl
    obtain ⟨a2, ys, rfl, r2, k2⟩ := key ry _ rfl
    refine ⟨a1, a2, xs, ys, rfl, .inr (.inr (.inr ⟨k1 g2 H2 (Grow.refl _ _) R2.sub, k2 g2 H2 (Grow.refl _ _) R2.sub, ?_⟩))⟩
    refine c _ g2 H2 st2 _ (gr1.trans gr2) R2 ?_ q2
    exact itd_zip (go' := fun _ _ => True) (S := fun H a xs => SqA false F.K H a xs) (S' := fun H a xs => SqA true F.K H a xs) _ (fun _ _ => rfl) (fun _ _ => rfl) (fun _ _ _ _ => rfl) (fun g H z sb => k1 g H (by rw [if_pos rfl] at z; exact z) sb) (fun g H z sb => k2 g H (by rw [if_pos rfl] at z; exact z) sb) (fun g H z => by rw [if_pos rfl] at z; exact z.le) r1 r2
  · exact (q2 : False).elim
theorem it_zipAE (hK : X.K = F.K) {elts : List Expr} {kk : Nat} {f f' : Ev → M Dn.D} (hg : Gl X "zip") (hm : X.mg "zip" = none) (hp : plainE a = true) (hp' : plainE b = true) (pe : PE X a (tE F f)) (pe' : PE X b (tE F f')) :
    ItE F X false (.Tuple elts kk tpos) (.Call (.Name "zip" p) [a, b] [] pos) (itZA f f') := by
  refine ⟨_, pi_zipM hg hm (pa2 hp hp' pe pe') (star_cons hp X.env) (st1 hp'), fun σ H g ρ st R h k SR q c => ?_⟩
  have q : Post F g H σ ((f ρ >>= fun d => f' ρ >>= fun e => zipA d e >>= h) st) k := by rw [← it_bind2]; exact q
  refine tE.use SR q fun d g1 H1 st1 x gr1 R1 rx q1 => ?_
  refine tE.use R1 q1 fun e g2 H2 st2 y gr2 R2 ry q2 => ?_
  rw [hK]
  have rx := rx.le gr2.le
  have key : ∀ {d : Dn.D} {v : V}, RepV F.K F.pa g2 v d → ∀ l, d = .lst l → ∃ a xs, v = .ref a ∧ RepVs F.K F.pa g2 xs l ∧ ∀ (g : Gh) (H : Hp), Le g2 g → Sub g H → SqL F.K H a xs := by
    intro d v rv l el
    subst el
    obtain ⟨a, xs, rfl, h1, r1⟩ := rv.lst_inv
    exact ⟨a, xs, rfl, r1, fun g H le sb => SqL.of (sb _ _ (le.fz _ _ h1))⟩
  have keyT : ∀ {d : Dn.D} {v : V}, RepV F.K F.pa g2 v d → ∀ l, d = .tup l → ∃ a xs, v = .ref a ∧ RepVs F.K F.pa g2 xs l ∧ ∀ (g : Gh) (H : Hp), Le g2 g → Sub g H → SqT F.K H a xs := by
    intro d v rv l el
    subst el
    obtain ⟨a, xs, rfl, h1, r1⟩ := rv.tup_inv
    exact ⟨a, xs, rfl, r1, fun g H le sb => sb.sqT (sqT_le le.fz h1)⟩
  unfold zipA at q2
  split at q2
  · obtain ⟨a1, xs, rfl, r1, k1⟩ := key rx _ rfl
    obtain ⟨a2, ys, rfl, r2, k2⟩ := key ry _ rfl
    refine ⟨a1, a2, xs, ys, rfl, .inl ⟨k1 g2 H2 (Le.refl _) R2.sub, k2 g2 H2 (Le.refl _) R2.sub, ?_⟩⟩
    refine c _ g2 H2 st2 _ (gr1.trans gr2) R2 ?_ q2
    exact itd_zip (go' := fun _ _ => True) (S := fun H a xs => SqL F.K H a xs) (S' := fun H a xs => SqL F.K H a xs) _ (fun _ _ => rfl) (fun _ _ => rfl) (fun _ _ _ _ => rfl) (fun g H z sb => k1 g H (qf z) sb) (fun g H z sb => k2 g H (qf z) sb) (fun g H z => qf z) r1 r2
  · obtain ⟨a1, xs, rfl, r1, k1⟩ := keyT rx _ rfl
    obtain ⟨a2, ys, rfl, r2, k2⟩ := keyT ry _ rfl
    refine ⟨a1, a2, xs, ys, rfl, .inr (.inl ⟨k1 g2 H2 (Le.refl _) R2.sub, k2 g2 H2 (Le.refl _) R2.sub, ?_⟩)⟩
    refine c _ g2 H2 st2 _ (gr1.trans gr2) R2 ?_ q2
    exact itd_zip (go' := fun _ _ => True) (S := fun H a xs => SqT F.K H a xs) (S' := fun H a xs => SqT F.K H a xs) _ (fun _ _ => rfl) (fun _ _ => rfl) (fun _ _ _ _ => rfl) (fun g H z sb => k1 g H (qf z) sb) (fun g H z sb => k2 g H (qf z) sb) (fun g H z => qf z) r1 r2
  · obtain ⟨a1, xs, rfl, r1, k1⟩ := key rx _ rfl
    obtain ⟨a2, ys, rfl, r2, k2⟩ := keyT ry _ rfl
    refine ⟨a1, a2, xs, ys, rfl, .inr (.inr (.inl ⟨k1 g2 H2 (Le.refl _) R2.sub, k2 g2 H2 (Le.refl _) R2.sub, ?_⟩))⟩
    refine c _ g2 H2 st2 _ (gr1.trans gr2) R2 ?_ q2
    exact itd_zip (go' := fun _ _ => True) (S := fun H a xs => SqA true F.K H a xs) (S' := fun H a xs => SqA false F.K H a xs) _ (fun _ _ => rfl) (fun _ _ => rfl) (fun _ _ _ _ => rfl) (fun g H z sb => k1 g H (qf z) sb) (fun g H z sb => k2 g H (qf z) sb) (fun g H z => qf z) r1 r2
  · obtain ⟨a1, xs, rfl, r1, k1⟩ := keyT rx _ rfl
    obtain ⟨a2, ys, rfl, r2, k2⟩ := key ry _ rfl
    refine ⟨a1, a2, xs, ys, rfl, .inr (.inr (.inr ⟨k1 g2 H2 (Le.refl _) R2.sub, k2 g2 H2 (Le.refl _) R2.sub, ?_⟩))⟩
    refine c _ g2 H2 st2 _ (gr1.trans gr2) R2 ?_ q2
    exact itd_zip (go' := fun _ _ => True) (S := fun H a xs => SqA false F.K H a xs) (S' := fun H a xs => SqA true F.K H a xs) _ (fun _ _ => rfl) (fun _ _ => rfl) (fun _ _ _ _ => rfl) (fun g H z sb => k1 g H (qf z) sb) (fun g H z sb => k2 g H (qf z) sb) (fun g H z => qf z) r1 r2
  · exact (q2 : False).elim
end
end Dn

set_option Elab.async false
set_option linter.all false
set_option maxRecDepth 100000
set_option maxHeartbeats 4000000
/-! k78: the text's mirror, printed by a program. -/
namespace K78
open PySem PySem.Spec PyProof.Rows L2 Dn
def top (i : Nat) : Stmt := PySem.Challenge.pw_everyminor_k78_sums_of_powers_and_tables.main.body.getD i (.Pass ⟨0, 0, 0, 0⟩)
def d0 : He.DefD := ⟨("BadNumber", some "__init__"), "__init__", "BadNumber.__init__", defArgs (meth (top 3) 0), defBody (meth (top 3) 0), defScope (meth (top 3) 0), [], []⟩
def d1 : He.DefD := ⟨("BadLot", some "__init__"), "__init__", "BadLot.__init__", defArgs (meth (top 4) 0), defBody (meth (top 4) 0), defScope (meth (top 4) 0), [], []⟩
def d2 : He.DefD := ⟨("BadRow", some "__init__"), "__init__", "BadRow.__init__", defArgs (meth (top 5) 0), defBody (meth (top 5) 0), defScope (meth (top 5) 0), [], []⟩
def d3 : He.DefD := ⟨("BadTable", some "__init__"), "__init__", "BadTable.__init__", defArgs (meth (top 6) 0), defBody (meth (top 6) 0), defScope (meth (top 6) 0), [], []⟩
def d4 : He.DefD := ⟨("Unlike", some "__init__"), "__init__", "Unlike.__init__", defArgs (meth (top 7) 0), defBody (meth (top 7) 0), defScope (meth (top 7) 0), [], []⟩
def d5 : He.DefD := ⟨("TooMany", some "__init__"), "__init__", "TooMany.__init__", defArgs (meth (top 8) 0), defBody (meth (top 8) 0), defScope (meth (top 8) 0), [], []⟩
def d6 : He.DefD := ⟨("is_whole", none), "is_whole", "is_whole", defArgs (top 10), defBody (top 10), defScope (top 10), [], []⟩
def d7 : He.DefD := ⟨("in_tuples", none), "in_tuples", "in_tuples", defArgs (top 11), defBody (top 11), defScope (top 11), [], []⟩
def d8 : He.DefD := ⟨("need_between", none), "need_between", "need_between", defArgs (top 12), defBody (top 12), defScope (top 12), [], []⟩
def d9 : He.DefD := ⟨("is_pair", none), "is_pair", "is_pair", defArgs (top 14), defBody (top 14), defScope (top 14), [], []⟩
def d10 : He.DefD := ⟨("lowest", none), "lowest", "lowest", defArgs (top 15), defBody (top 15), defScope (top 15), [], []⟩
def d11 : He.DefD := ⟨("summed", none), "summed", "summed", defArgs (top 16), defBody (top 16), defScope (top 16), [], []⟩
def d12 : He.DefD := ⟨("scaled", none), "scaled", "scaled", defArgs (top 17), defBody (top 17), defScope (top 17), [], []⟩
def d13 : He.DefD := ⟨("is_loose", none), "is_loose", "is_loose", defArgs (top 22), defBody (top 22), defScope (top 22), [], []⟩
def d14 : He.DefD := ⟨("told_ratio", none), "told_ratio", "told_ratio", defArgs (top 23), defBody (top 23), defScope (top 23), [], []⟩
def d15 : He.DefD := ⟨("loose_row", none), "loose_row", "loose_row", defArgs (top 24), defBody (top 24), defScope (top 24), [], []⟩
def d16 : He.DefD := ⟨("row_from", none), "row_from", "row_from", defArgs (top 25), defBody (top 25), defScope (top 25), [], []⟩
def d17 : He.DefD := ⟨("table_from", none), "table_from", "table_from", defArgs (top 26), defBody (top 26), defScope (top 26), [], []⟩
def d18 : He.DefD := ⟨("turned_by", none), "turned_by", "turned_by", defArgs (top 27), defBody (top 27), defScope (top 27), [], []⟩
def d19 : He.DefD := ⟨("turned", none), "turned", "turned", defArgs (top 28), defBody (top 28), defScope (top 28), [], []⟩
def d20 : He.DefD := ⟨("dot_of", none), "dot_of", "dot_of", defArgs (top 29), defBody (top 29), defScope (top 29), [], []⟩
def d21 : He.DefD := ⟨("product_by", none), "product_by", "product_by", defArgs (top 30), defBody (top 30), defScope (top 30), [], []⟩
def d22 : He.DefD := ⟨("product", none), "product", "product", defArgs (top 31), defBody (top 31), defScope (top 31), [], []⟩
def d23 : He.DefD := ⟨("power_row", none), "power_row", "power_row", defArgs (top 34), defBody (top 34), defScope (top 34), [], []⟩
def d24 : He.DefD := ⟨("power_sums", none), "power_sums", "power_sums", defArgs (top 35), defBody (top 35), defScope (top 35), [], []⟩
def d25 : He.DefD := ⟨("hankel_by", none), "hankel_by", "hankel_by", defArgs (top 36), defBody (top 36), defScope (top 36), [], []⟩
def d26 : He.DefD := ⟨("hankel", none), "hankel", "hankel", defArgs (top 37), defBody (top 37), defScope (top 37), [], []⟩
def d27 : He.DefD := ⟨("power_table", none), "power_table", "power_table", defArgs (top 39), defBody (top 39), defScope (top 39), [], []⟩
def d28 : He.DefD := ⟨("diagonal_by", none), "diagonal_by", "diagonal_by", defArgs (top 40), defBody (top 40), defScope (top 40), [], []⟩
def d29 : He.DefD := ⟨("diagonal_table", none), "diagonal_table", "diagonal_table", defArgs (top 41), defBody (top 41), defScope (top 41), [], []⟩
def d30 : He.DefD := ⟨("_law_pen", none), "_law_pen", "_law_pen", defArgs (top 43), defBody (top 43), defScope (top 43), [], []⟩
def d31 : He.DefD := ⟨("_law_draw", none), "_law_draw", "_law_draw", defArgs (top 44), defBody (top 44), defScope (top 44), [], []⟩
def d32 : He.DefD := ⟨("_law_pick", none), "_law_pick", "_law_pick", defArgs (top 45), defBody (top 45), defScope (top 45), [], []⟩
def d33 : He.DefD := ⟨("_law_gcd", none), "_law_gcd", "_law_gcd", defArgs (top 46), defBody (top 46), defScope (top 46), [], []⟩
def d34 : He.DefD := ⟨("_law_q", none), "_law_q", "_law_q", defArgs (top 47), defBody (top 47), defScope (top 47), [], []⟩
def d35 : He.DefD := ⟨("_law_plus", none), "_law_plus", "_law_plus", defArgs (top 48), defBody (top 48), defScope (top 48), [], []⟩
def d36 : He.DefD := ⟨("_law_times", none), "_law_times", "_law_times", defArgs (top 49), defBody (top 49), defScope (top 49), [], []⟩
def d37 : He.DefD := ⟨("_law_handed", none), "_law_handed", "_law_handed", defArgs (top 50), defBody (top 50), defScope (top 50), [], []⟩
def d38 : He.DefD := ⟨("_law_passed", none), "_law_passed", "_law_passed", defArgs (top 51), defBody (top 51), defScope (top 51), [], []⟩
def d39 : He.DefD := ⟨("_law_ratio", none), "_law_ratio", "_law_ratio", defArgs (top 52), defBody (top 52), defScope (top 52), [], []⟩
def d40 : He.DefD := ⟨("_law_sum", none), "_law_sum", "_law_sum", defArgs (top 53), defBody (top 53), defScope (top 53), [], []⟩
def d41 : He.DefD := ⟨("_law_fault", none), "_law_fault", "_law_fault", defArgs (top 54), defBody (top 54), defScope (top 54), [], []⟩
def d42 : He.DefD := ⟨("_law_are_due", none), "_law_are_due", "_law_are_due", defArgs (top 55), defBody (top 55), defScope (top 55), [], []⟩
def d43 : He.DefD := ⟨("_law_given_row", none), "_law_given_row", "_law_given_row", defArgs (top 56), defBody (top 56), defScope (top 56), [], []⟩
def d44 : He.DefD := ⟨("_law_power_row", none), "_law_power_row", "_law_power_row", defArgs (top 57), defBody (top 57), defScope (top 57), [], []⟩
def d45 : He.DefD := ⟨("_law_square_of", none), "_law_square_of", "_law_square_of", defArgs (top 58), defBody (top 58), defScope (top 58), [], []⟩
def d46 : He.DefD := ⟨("_law_case", none), "_law_case", "_law_case", defArgs (top 59), defBody (top 59), defScope (top 59), [], []⟩
def d47 : He.DefD := ⟨("law", none), "law", "law", defArgs (top 60), defBody (top 60), defScope (top 60), [], []⟩
def fn : List He.DefD := ([d0, d1, d2, d3, d4, d5, d6, d7, d8, d9, d10, d11, d12, d13, d14, d15, d16, d17, d18, d19] : List He.DefD) ++ ([d20, d21, d22, d23, d24, d25, d26, d27, d28, d29, d30, d31, d32, d33, d34, d35, d36, d37, d38, d39] : List He.DefD) ++ ([d40, d41, d42, d43, d44, d45, d46, d47] : List He.DefD)
def fa : List He.Fa := ([.glo "MinorError", .glo "BadNumber", .glo "BadLot", .glo "BadRow", .glo "BadTable", .glo "Unlike", .glo "TooMany", .glo "is_whole", .glo "in_tuples", .glo "need_between", .glo "is_pair", .glo "lowest", .glo "summed", .glo "scaled", .glo "is_loose", .glo "told_ratio", .glo "loose_row", .glo "row_from", .glo "table_from", .glo "turned_by"] : List He.Fa) ++ ([.glo "turned", .glo "dot_of", .glo "product_by", .glo "product", .glo "power_row", .glo "power_sums", .glo "hankel_by", .glo "hankel", .glo "power_table", .glo "diagonal_by", .glo "diagonal_table", .glo "_law_pen", .glo "_law_draw", .glo "_law_pick", .glo "_law_gcd", .glo "_law_q", .glo "_law_plus", .glo "_law_times", .glo "_law_handed", .glo "_law_passed"] : List He.Fa) ++ ([.glo "_law_ratio", .glo "_law_sum", .glo "_law_fault", .glo "_law_are_due", .glo "_law_given_row", .glo "_law_power_row", .glo "_law_square_of", .glo "_law_case", .glo "law", .free "ValueError", .free "abs", .free "all", .free "bool", .free "int", .free "isinstance", .free "len", .free "list", .free "range", .free "repr", .free "tuple"] : List He.Fa) ++ ([.free "zip", .int "MOST" 6, .int "MOST_ITEMS" 12] : List He.Fa)
def excL : List (Str × List Str) := [("BadNumber", [("what" : Str), ("number" : Str)]), ("BadLot", [("lot" : Str)]), ("BadRow", [("row" : Str)]), ("BadTable", [("table" : Str)]), ("Unlike", [("what" : Str)]), ("TooMany", [("what" : Str), ("many" : Str), ("limit" : Str)])]
def exF : List (List Str) := excL.map (·.2)
def conL : List (Str × D) := [("NONE", .tup [.int (0), .int (1)]), ("ONE", .tup [.int (1), .int (1)])]
def ex (K : PySem.W.Frag) : Bool := (baseB K (He.ga K "MinorError") && smB K) && (excsB K excL && (gcdB K "gcd" "math.gcd" && (conL.all fun p => gkonB K p.1 p.2)))
def lamL : List (Str × Arguments × Expr × Scope) := ([lamD "law.<locals>.<lambda>" (eN 0 (eN 0 (sVal (((defBody (top 60)).getD 5 (.Pass ⟨0, 0, 0, 0⟩)))))), lamD "law.<locals>.<lambda>" (eN 0 (eN 0 (sVal (((defBody (top 60)).getD 6 (.Pass ⟨0, 0, 0, 0⟩)))))), lamD "law.<locals>.<lambda>" (eN 0 (eN 0 (sVal (((defBody (top 60)).getD 7 (.Pass ⟨0, 0, 0, 0⟩)))))), lamD "law.<locals>.<lambda>" (eN 0 (eN 0 (sVal (((defBody (top 60)).getD 8 (.Pass ⟨0, 0, 0, 0⟩)))))), lamD "law.<locals>.<lambda>" (eN 0 (eN 0 (sVal (((defBody (top 60)).getD 9 (.Pass ⟨0, 0, 0, 0⟩)))))), lamD "law.<locals>.<lambda>" (eN 0 (eN 0 (sVal (((defBody (top 60)).getD 10 (.Pass ⟨0, 0, 0, 0⟩)))))), lamD "law.<locals>.<lambda>" (eN 0 (eN 0 (sVal (((defBody (top 60)).getD 11 (.Pass ⟨0, 0, 0, 0⟩))))))] : List (Str × Arguments × Expr × Scope))
def S_is_whole : SS := sRet (asR (andD (asD (op1 (isaM ["int"]) (vq 0))) (asD (op1 notM (asD (op1 (isaM ["bool"]) (vq 0)))))))
def f_is_whole : List D → M RV := runF [("value" : Str)] S_is_whole
def f_r0_in_tuples : List D → M RV := fun _ => stuck
def S_r1_in_tuples : SS := sSeq (sIf (notT (truE (asD (op1 (isaM ["tuple", "list"]) (vq 0))))) (sRet (asR (vr 0))) (sNil)) (sRet (op1 tupleM (asD (compE (itS (vq 0)) (.nm 1) (fun _ => pure true) (asD (callE 1 f_r0_in_tuples (aC (vr 1) (aN)))) [1]))))
def f_r1_in_tuples : List D → M RV := runF [("value" : Str), ("item" : Str)] S_r1_in_tuples
def S_r2_in_tuples : SS := sSeq (sIf (notT (truE (asD (op1 (isaM ["tuple", "list"]) (vq 0))))) (sRet (asR (vr 0))) (sNil)) (sRet (op1 tupleM (asD (compE (itS (vq 0)) (.nm 1) (fun _ => pure true) (asD (callE 1 f_r1_in_tuples (aC (vr 1) (aN)))) [1]))))
def f_r2_in_tuples : List D → M RV := runF [("value" : Str), ("item" : Str)] S_r2_in_tuples
def S_r3_in_tuples : SS := sSeq (sIf (notT (truE (asD (op1 (isaM ["tuple", "list"]) (vq 0))))) (sRet (asR (vr 0))) (sNil)) (sRet (op1 tupleM (asD (compE (itS (vq 0)) (.nm 1) (fun _ => pure true) (asD (callE 1 f_r2_in_tuples (aC (vr 1) (aN)))) [1]))))
def f_r3_in_tuples : List D → M RV := runF [("value" : Str), ("item" : Str)] S_r3_in_tuples
def S_r4_in_tuples : SS := sSeq (sIf (notT (truE (asD (op1 (isaM ["tuple", "list"]) (vq 0))))) (sRet (asR (vr 0))) (sNil)) (sRet (op1 tupleM (asD (compE (itS (vq 0)) (.nm 1) (fun _ => pure true) (asD (callE 1 f_r3_in_tuples (aC (vr 1) (aN)))) [1]))))
def f_r4_in_tuples : List D → M RV := runF [("value" : Str), ("item" : Str)] S_r4_in_tuples
def S_r5_in_tuples : SS := sSeq (sIf (notT (truE (asD (op1 (isaM ["tuple", "list"]) (vq 0))))) (sRet (asR (vr 0))) (sNil)) (sRet (op1 tupleM (asD (compE (itS (vq 0)) (.nm 1) (fun _ => pure true) (asD (callE 1 f_r4_in_tuples (aC (vr 1) (aN)))) [1]))))
def f_r5_in_tuples : List D → M RV := runF [("value" : Str), ("item" : Str)] S_r5_in_tuples
def S_r6_in_tuples : SS := sSeq (sIf (notT (truE (asD (op1 (isaM ["tuple", "list"]) (vq 0))))) (sRet (asR (vr 0))) (sNil)) (sRet (op1 tupleM (asD (compE (itS (vq 0)) (.nm 1) (fun _ => pure true) (asD (callE 1 f_r5_in_tuples (aC (vr 1) (aN)))) [1]))))
def f_r6_in_tuples : List D → M RV := runF [("value" : Str), ("item" : Str)] S_r6_in_tuples
def S_r7_in_tuples : SS := sSeq (sIf (notT (truE (asD (op1 (isaM ["tuple", "list"]) (vq 0))))) (sRet (asR (vr 0))) (sNil)) (sRet (op1 tupleM (asD (compE (itS (vq 0)) (.nm 1) (fun _ => pure true) (asD (callE 1 f_r6_in_tuples (aC (vr 1) (aN)))) [1]))))
def f_r7_in_tuples : List D → M RV := runF [("value" : Str), ("item" : Str)] S_r7_in_tuples
def S_r8_in_tuples : SS := sSeq (sIf (notT (truE (asD (op1 (isaM ["tuple", "list"]) (vq 0))))) (sRet (asR (vr 0))) (sNil)) (sRet (op1 tupleM (asD (compE (itS (vq 0)) (.nm 1) (fun _ => pure true) (asD (callE 1 f_r7_in_tuples (aC (vr 1) (aN)))) [1]))))
def f_r8_in_tuples : List D → M RV := runF [("value" : Str), ("item" : Str)] S_r8_in_tuples
def S_need_between : SS := sSeq (sIf (notT (truE (asD (callE 1 f_is_whole (aC (vr 1) (aN)))))) (sRaise 0 2 (aC (vr 0) (aC (vr 1) (aN)))) (sNil)) (sIf (orT (andT (tstE (op2 isnM (vq 2) (kk .non))) (tstE (op2 ltM (vq 1) (vq 2)))) (andT (tstE (op2 isnM (vq 3) (kk .non))) (tstE (op2 gtM (vq 1) (vq 3))))) (sRaise 0 2 (aC (vr 0) (aC (vr 1) (aN)))) (sNil))
def f_need_between : List D → M RV := runF [("what" : Str), ("number" : Str), ("low" : Str), ("high" : Str)] S_need_between
def S_is_pair : SS := sSeq (sIf (orT (notT (truE (asD (op1 (isaM ["tuple", "list"]) (vq 0))))) (tstE (op2 neM (asD (op1 lenM (vq 0))) (kk (.int 2))))) (sRet (asR (kk (.bl false)))) (sNil)) (sRet (asR (andD (asD (callE 1 f_is_whole (aC (asD (op2 ixM (vq 0) (kk (.int 0)))) (aN)))) (andD (asD (callE 1 f_is_whole (aC (asD (op2 ixM (vq 0) (kk (.int 1)))) (aN)))) (asD (op2 gtM (asD (op2 ixM (vq 0) (kk (.int 1)))) (kk (.int 0))))))))
def f_is_pair : List D → M RV := runF [("value" : Str)] S_is_pair
def S_lowest : SS := sSeq (sSet 2 (ifR (tstE (op2 gtM (vq 1) (kk (.int 0)))) (op2 gcdM (vq 0) (vq 1)) (op1 negM (asD (op2 gcdM (vq 0) (vq 1)))))) (sRet (asR (tupE (aC (asD (op2 divM (vq 0) (vq 2))) (aC (asD (op2 divM (vq 1) (vq 2))) (aN))))))
def f_lowest : List D → M RV := runF [("top" : Str), ("bottom" : Str), ("by" : Str)] S_lowest
def S_summed : SS := sRet (callE 2 f_lowest (aC (asD (op2 addA (asD (op2 mulM (asD (op2 ixM (vq 0) (kk (.int 0)))) (asD (op2 ixM (vq 1) (kk (.int 1)))))) (asD (op2 mulM (asD (op2 ixM (vq 1) (kk (.int 0)))) (asD (op2 ixM (vq 0) (kk (.int 1)))))))) (aC (asD (op2 mulM (asD (op2 ixM (vq 0) (kk (.int 1)))) (asD (op2 ixM (vq 1) (kk (.int 1)))))) (aN))))
def f_summed : List D → M RV := runF [("one" : Str), ("other" : Str)] S_summed
def S_scaled : SS := sRet (callE 2 f_lowest (aC (asD (op2 mulM (asD (op2 ixM (vq 0) (kk (.int 0)))) (asD (op2 ixM (vq 1) (kk (.int 0)))))) (aC (asD (op2 mulM (asD (op2 ixM (vq 0) (kk (.int 1)))) (asD (op2 ixM (vq 1) (kk (.int 1)))))) (aN))))
def f_scaled : List D → M RV := runF [("one" : Str), ("other" : Str)] S_scaled
def S_is_loose : SS := sRet (asR (orD (asD (callE 1 f_is_whole (aC (vr 0) (aN)))) (andD (asD (op1 (isaM ["tuple"]) (vq 0))) (asD (callE 1 f_is_pair (aC (vr 0) (aN)))))))
def f_is_loose : List D → M RV := runF [("value" : Str)] S_is_loose
def S_told_ratio : SS := sRet (ifR (truE (asD (callE 1 f_is_whole (aC (vr 0) (aN))))) (asR (tupE (aC (vr 0) (aC (kk (.int 1)) (aN))))) (callE 2 f_lowest (aC (asD (op2 ixM (vq 0) (kk (.int 0)))) (aC (asD (op2 ixM (vq 0) (kk (.int 1)))) (aN)))))
def f_told_ratio : List D → M RV := runF [("value" : Str)] S_told_ratio
def S_loose_row : SS := sSeq (sIf (orT (notT (truE (asD (op1 (isaM ["tuple"]) (vq 0))))) (notT (truE (asD (op1 allM (asD (compE (itS (vq 0)) (.nm 1) (fun _ => pure true) (asD (callE 1 f_is_loose (aC (vr 1) (aN)))) [1]))))))) (sRet (asR (kk .non))) (sNil)) (sRet (op1 tupleM (asD (compE (itS (vq 0)) (.nm 1) (fun _ => pure true) (asD (callE 1 f_told_ratio (aC (vr 1) (aN)))) [1]))))
def f_loose_row : List D → M RV := runF [("value" : Str), ("item" : Str)] S_loose_row
def S_row_from : SS := sSeq (sSet 3 (callE 1 f_loose_row (aC (asD (callE 1 f_r8_in_tuples (aC (vr 0) (aN)))) (aN)))) (sSeq (sIf (orT (tstE (op2 isM (vq 3) (kk .non))) (notT (tstE (chn leM leM (vq 1) (asD (op1 lenM (vq 3))) (vq 2))))) (sRaise 2 1 (aC (vr 0) (aN))) (sNil)) (sRetO 3))
def f_row_from : List D → M RV := runF [("row" : Str), ("least" : Str), ("most" : Str), ("made" : Str)] S_row_from
def S_table_from : SS := sSeq (sSet 1 (callE 1 f_r8_in_tuples (aC (vr 0) (aN)))) (sSeq (sIf (orT (notT (truE (asD (op1 (isaM ["tuple"]) (vq 1))))) (notT (tstE (chn leM leM (kk (.int 1)) (asD (op1 lenM (vq 1))) (kk (.int 6)))))) (sRaise 3 1 (aC (vr 0) (aN))) (sNil)) (sSeq (sSet 2 (compE (itS (vq 1)) (.nm 3) (fun _ => pure true) (asD (callE 1 f_loose_row (aC (vr 3) (aN)))) [3])) (sSeq (sIf (orT (tstE (op2 (inM false) (kk .non) (vq 2))) (orT (notT (tstE (chn leM leM (kk (.int 1)) (asD (op1 lenM (asD (op2 ixM (vq 2) (kk (.int 0)))))) (kk (.int 6))))) (notT (truE (asD (op1 allM (asD (compE (itS (vq 2)) (.nm 3) (fun _ => pure true) (asD (op2 eqM (asD (op1 lenM (vq 3))) (asD (op1 lenM (asD (op2 ixM (vq 2) (kk (.int 0)))))))) [3])))))))) (sRaise 3 1 (aC (vr 0) (aN))) (sNil)) (sRet (op1 tupleM (vq 2))))))
def f_table_from : List D → M RV := runF [("table" : Str), ("made" : Str), ("rows" : Str), ("row" : Str)] S_table_from
def S_turned_by : SS := sRet (op1 tupleM (asD (compE (itR1 (asD (op1 lenM (asD (op2 ixM (vq 0) (kk (.int 0))))))) (.nm 1) (fun _ => pure true) (asD (op1 tupleM (asD (compE (itS (vq 0)) (.nm 2) (fun _ => pure true) (asD (op2 ixM (vq 2) (vq 1))) [2])))) [1])))
def f_turned_by : List D → M RV := runF [("table" : Str), ("k" : Str), ("row" : Str)] S_turned_by
def S_turned : SS := sRet (callE 1 f_turned_by (aC (asD (callE 1 f_table_from (aC (vr 0) (aN)))) (aN)))
def f_turned : List D → M RV := runF [("table" : Str)] S_turned
def S_dot_of : SS := sSeq (sSet 2 (asR (kk (.tup [.int (0), .int (1)])))) (sSeq (sFor (itZA (vr 0) (vr 1)) (.tp [3, 4]) (sIf (andT (tstE (op2 neM (vq 3) (kk (.tup [.int (0), .int (1)])))) (tstE (op2 neM (vq 4) (kk (.tup [.int (0), .int (1)]))))) (sFrz [2] (sSet 2 (callE 2 f_summed (aC (vr 2) (aC (asD (callE 2 f_scaled (aC (vr 3) (aC (vr 4) (aN))))) (aN)))))) (sNil))) (sRetO 2))
def f_dot_of : List D → M RV := runF [("one" : Str), ("other" : Str), ("out" : Str), ("a" : Str), ("b" : Str)] S_dot_of
def S_product_by : SS := sSeq (sSet 2 (callE 1 f_turned_by (aC (vr 1) (aN)))) (sRet (op1 tupleM (asD (compE (itS (vq 0)) (.nm 3) (fun _ => pure true) (asD (op1 tupleM (asD (compE (itS (vq 2)) (.nm 4) (fun _ => pure true) (asD (callE 2 f_dot_of (aC (vr 3) (aC (vr 4) (aN))))) [4])))) [3]))))
def f_product_by : List D → M RV := runF [("one" : Str), ("other" : Str), ("columns" : Str), ("row" : Str), ("column" : Str)] S_product_by
def S_product : SS := sSeq (sPar 2 3 (asD (callE 1 f_table_from (aC (vr 0) (aN)))) (asD (callE 1 f_table_from (aC (vr 1) (aN))))) (sSeq (sIf (tstE (op2 neM (asD (op1 lenM (asD (op2 ixM (vq 2) (kk (.int 0)))))) (asD (op1 lenM (vq 3))))) (sRaise 4 1 (aC (kk (.str ("size" : Str))) (aN))) (sNil)) (sRet (callE 2 f_product_by (aC (vr 2) (aC (vr 3) (aN))))))
def f_product : List D → M RV := runF [("one" : Str), ("other" : Str), ("first" : Str), ("second" : Str)] S_product
def S_power_row : SS := sSeq (sParR 3 4 (lstE (aN)) (op1 listM (vq 1))) (sSeq (sFor (itR1 (vq 2)) (.nm 5) (sSeq (sSet 6 (asR (kk (.tup [.int (0), .int (1)])))) (sSeq (sFrz [4] (sFor (itS (vr 4)) (.nm 7) (sFrz [6] (sSet 6 (callE 2 f_summed (aC (vr 6) (aC (vr 7) (aN)))))))) (sSeq (sFrz [6] (sApp 3 (vr 6))) (sSet 4 (compE (itZA (vq 4) (vq 0)) (.tp [7, 8]) (fun _ => pure true) (asD (callE 2 f_scaled (aC (vr 7) (aC (vr 8) (aN))))) [7, 8])))))) (sRet (op1 tupleM (vq 3))))
def f_power_row : List D → M RV := runF [("points" : Str), ("weights" : Str), ("many" : Str), ("out" : Str), ("here" : Str), ("lap" : Str), ("total" : Str), ("item" : Str), ("point" : Str)] S_power_row
def S_power_sums : SS := sSeq (sSet 3 (callE 3 f_row_from (aC (vr 0) (aC (kk (.int 1)) (aC (kk (.int 6)) (aN)))))) (sSeq (sSet 4 (callE 3 f_row_from (aC (vr 1) (aC (asD (op1 lenM (vq 3))) (aC (asD (op1 lenM (vq 3))) (aN)))))) (sSeq (sExp (callE 4 f_need_between (aC (kk (.str ("many" : Str))) (aC (vr 2) (aC (kk (.int 1)) (aC (kk (.int 12)) (aN))))))) (sFrz [3, 4] (sRet (callE 3 f_power_row (aC (vr 3) (aC (vr 4) (aC (vr 2) (aN)))))))))
def f_power_sums : List D → M RV := runF [("points" : Str), ("weights" : Str), ("many" : Str), ("first" : Str), ("second" : Str)] S_power_sums
def S_hankel_by : SS := sRet (op1 tupleM (asD (compE (itR1 (vq 1)) (.nm 3) (fun _ => pure true) (asD (op1 tupleM (asD (compE (itR1 (vq 1)) (.nm 4) (fun _ => pure true) (asD (op2 ixM (vq 0) (asD (op2 addA (asD (op2 addA (vq 3) (vq 4))) (vq 2))))) [4])))) [3])))
def f_hankel_by : List D → M RV := runF [("row" : Str), ("size" : Str), ("start" : Str), ("i" : Str), ("j" : Str)] S_hankel_by
def S_hankel : SS := sSeq (sSet 3 (callE 3 f_row_from (aC (vr 0) (aC (kk (.int 1)) (aC (kk (.int 12)) (aN)))))) (sSeq (sExp (callE 4 f_need_between (aC (kk (.str ("size" : Str))) (aC (vr 1) (aC (kk (.int 1)) (aC (kk (.int 6)) (aN))))))) (sSeq (sExp (callE 4 f_need_between (aC (kk (.str ("start" : Str))) (aC (vr 2) (aC (kk (.int 0)) (aC (kk (.int 1)) (aN))))))) (sSeq (sIf (tstE (op2 ltM (asD (op1 lenM (vq 3))) (asD (op2 addA (asD (op2 subM (asD (op2 mulM (kk (.int 2)) (vq 1))) (kk (.int 1)))) (vq 2))))) (sRaise 4 1 (aC (kk (.str ("size" : Str))) (aN))) (sNil)) (sFrz [3] (sRet (callE 3 f_hankel_by (aC (vr 3) (aC (vr 1) (aC (vr 2) (aN))))))))))
def f_hankel : List D → M RV := runF [("row" : Str), ("size" : Str), ("start" : Str), ("made" : Str)] S_hankel
def S_power_table : SS := sSeq (sSet 2 (callE 3 f_row_from (aC (vr 0) (aC (kk (.int 1)) (aC (kk (.int 6)) (aN)))))) (sSeq (sExp (callE 4 f_need_between (aC (kk (.str ("many" : Str))) (aC (vr 1) (aC (kk (.int 1)) (aC (kk (.int 6)) (aN))))))) (sSeq (sSet 3 (lstE (aN))) (sSeq (sFrz [2] (sFor (itS (vr 2)) (.nm 4) (sSeq (sSet 5 (lstE (aC (kk (.tup [.int (1), .int (1)])) (aN)))) (sSeq (whM (tstE (op2 ltM (asD (op1 lenM (vq 5))) (vq 1))) (sApp 5 (asD (callE 2 f_scaled (aC (asD (op2 ixM (vq 5) (asD (op1 negM (kk (.int 1)))))) (aC (vr 4) (aN)))))) 1000) (sApp 3 (asD (op1 tupleM (vq 5)))))))) (sRet (op1 tupleM (vq 3))))))
def f_power_table : List D → M RV := runF [("points" : Str), ("many" : Str), ("made" : Str), ("out" : Str), ("point" : Str), ("row" : Str)] S_power_table
def S_diagonal_by : SS := sRet (op1 tupleM (asD (compE (itR1 (asD (op1 lenM (vq 0)))) (.nm 1) (fun _ => pure true) (asD (op1 tupleM (asD (compE (itR1 (asD (op1 lenM (vq 0)))) (.nm 2) (fun _ => pure true) (asD (ifR (tstE (op2 eqM (vq 1) (vq 2))) (op2 ixM (vq 0) (vq 1)) (asR (kk (.tup [.int (0), .int (1)]))))) [2])))) [1])))
def f_diagonal_by : List D → M RV := runF [("row" : Str), ("i" : Str), ("j" : Str)] S_diagonal_by
def S_diagonal_table : SS := sRet (callE 1 f_diagonal_by (aC (asD (callE 3 f_row_from (aC (vr 0) (aC (kk (.int 1)) (aC (kk (.int 6)) (aN)))))) (aN)))
def f_diagonal_table : List D → M RV := runF [("row" : Str)] S_diagonal_table
def S__law_pen : SS := sSeq (sSet 1 (asR (kk (.int 0)))) (sSeq (sFor (itS (vr 0)) (.nm 2) (sSet 1 (op2 modM (asD (op1 intM (asD (op2 addA (asD (op2 mulM (vq 1) (kk (.int 139)))) (vq 2))))) (kk (.int 999999491))))) (sRet (asR (celE [("cells" : Str), ("at" : Str), ("digits" : Str), ("count" : Str), ("fold" : Str)] [asD (op1 listM (vq 0)), kk (.int 0), kk (.int 0), kk (.int 0), vr 1]))))
def f__law_pen : List D → M RV := runF [("script" : Str), ("fold" : Str), ("cell" : Str)] S__law_pen
def S__law_draw : SS := sSeq (sPut "count" (vr 0) (asD (op2 addA (getE "count" (vr 0)) (kk (.int 1))))) (sSeq (sIf (andT (tstE (op2 eqM (getE "digits" (vr 0)) (kk (.int 0)))) (tstE (op2 ltM (getE "at" (vr 0)) (asD (op1 lenM (getE "cells" (vr 0))))))) (sSeq (sSet 2 (op2 ixM (getE "cells" (vr 0)) (getE "at" (vr 0)))) (sSeq (sPut "at" (vr 0) (asD (op2 addA (getE "at" (vr 0)) (kk (.int 1))))) (sIf (tstE (op2 geM (vq 2) (asD (op2 powM (kk (.int 10)) (kk (.int 18)))))) (sPut "digits" (vr 0) (asD (op2 subM (vq 2) (asD (op2 powM (kk (.int 10)) (kk (.int 18))))))) (sPut "fold" (vr 0) (asD (op2 modM (asD (op1 intM (asD (op2 addA (asD (op2 mulM (getE "fold" (vr 0)) (kk (.int 30727)))) (vq 2))))) (kk (.int 2147483179)))))))) (sNil)) (sSeq (sIf (tstE (op2 gtM (getE "digits" (vr 0)) (kk (.int 0)))) (sSeq (sSet 3 (op2 modM (asD (op1 intM (getE "digits" (vr 0)))) (vq 1))) (sSeq (sPut "digits" (vr 0) (asD (op2 divM (getE "digits" (vr 0)) (vq 1)))) (sRet (asR (vr 3))))) (sNil)) (sSeq (sSet 4 (op2 addA (asD (op2 addA (getE "fold" (vr 0)) (asD (op2 mulM (getE "count" (vr 0)) (kk (.int 6421)))))) (kk (.int 131)))) (sRet (op2 modM (asD (op2 divM (asD (op1 intM (asD (op2 modM (asD (op2 powM (vq 4) (kk (.int 47)))) (kk (.int 2305843009213693951)))))) (kk (.int 512)))) (vq 1))))))
def f__law_draw : List D → M RV := runF [("pen" : Str), ("many" : Str), ("cell" : Str), ("digit" : Str), ("blend" : Str)] S__law_draw
def S__law_pick : SS := sRet (op2 ixM (vq 1) (asD (callE 2 f__law_draw (aC (vr 0) (aC (asD (op1 lenM (vq 1))) (aN))))))
def f__law_pick : List D → M RV := runF [("pen" : Str), ("some" : Str)] S__law_pick
def S__law_gcd : SS := sSeq (sPar 0 1 (asD (op1 absM (vq 0))) (asD (op1 absM (vq 1)))) (sSeq (sFor (itR1 (asD (op2 addA (kk (.int 4)) (asD (op2 mulM (kk (.int 2)) (asD (op1 bitsM (asD (op1 intM (vq 1)))))))))) (.nm 2) (sSeq (sIf (tstE (op2 eqM (vq 1) (kk (.int 0)))) (sBrk) (sNil)) (sPar 0 1 (vr 1) (asD (op2 modM (asD (op1 intM (vq 0))) (vq 1)))))) (sRet (asR (vr 0))))
def f__law_gcd : List D → M RV := runF [("one" : Str), ("two" : Str), ("lap" : Str)] S__law_gcd
def S__law_q : SS := sSeq (sSet 2 (callE 2 f__law_gcd (aC (vr 0) (aC (vr 1) (aN))))) (sSeq (sFrz [2] (sSet 2 (ifR (tstE (op2 ltM (vq 1) (kk (.int 0)))) (op1 negM (vq 2)) (asR (vr 2))))) (sRet (asR (tupE (aC (asD (op2 divM (vq 0) (vq 2))) (aC (asD (op2 divM (vq 1) (vq 2))) (aN)))))))
def f__law_q : List D → M RV := runF [("top" : Str), ("bottom" : Str), ("by" : Str)] S__law_q
def S__law_plus : SS := sRet (callE 2 f__law_q (aC (asD (op2 addA (asD (op2 mulM (asD (op2 ixM (vq 0) (kk (.int 0)))) (asD (op2 ixM (vq 1) (kk (.int 1)))))) (asD (op2 mulM (asD (op2 ixM (vq 1) (kk (.int 0)))) (asD (op2 ixM (vq 0) (kk (.int 1)))))))) (aC (asD (op2 mulM (asD (op2 ixM (vq 0) (kk (.int 1)))) (asD (op2 ixM (vq 1) (kk (.int 1)))))) (aN))))
def f__law_plus : List D → M RV := runF [("one" : Str), ("two" : Str)] S__law_plus
def S__law_times : SS := sRet (callE 2 f__law_q (aC (asD (op2 mulM (asD (op2 ixM (vq 0) (kk (.int 0)))) (asD (op2 ixM (vq 1) (kk (.int 0)))))) (aC (asD (op2 mulM (asD (op2 ixM (vq 0) (kk (.int 1)))) (asD (op2 ixM (vq 1) (kk (.int 1)))))) (aN))))
def f__law_times : List D → M RV := runF [("one" : Str), ("two" : Str)] S__law_times
def S__law_handed : SS := sSeq (sIf (andT (tstE (op2 eqM (asD (op2 ixM (vq 1) (kk (.int 1)))) (kk (.int 1)))) (tstE (op2 eqM (asD (callE 2 f__law_draw (aC (vr 0) (aC (kk (.int 2)) (aN))))) (kk (.int 0))))) (sRet (op2 ixM (vq 1) (kk (.int 0)))) (sNil)) (sSeq (sSet 2 (callE 2 f__law_pick (aC (vr 0) (aC (asD (lstE (aC (kk (.int 1)) (aC (kk (.int 1)) (aC (kk (.int 2)) (aC (kk (.int 5)) (aN))))))) (aN))))) (sRet (callE 2 f__law_pick (aC (vr 0) (aC (asD (lstE (aC (tupE (aC (asD (op2 mulM (asD (op2 ixM (vq 1) (kk (.int 0)))) (vq 2))) (aC (asD (op2 mulM (asD (op2 ixM (vq 1) (kk (.int 1)))) (vq 2))) (aN)))) (aC (asD (lstE (aC (asD (op2 mulM (asD (op2 ixM (vq 1) (kk (.int 0)))) (vq 2))) (aC (asD (op2 mulM (asD (op2 ixM (vq 1) (kk (.int 1)))) (vq 2))) (aN))))) (aN))))) (aN))))))
def f__law_handed : List D → M RV := runF [("pen" : Str), ("ratio" : Str), ("by" : Str)] S__law_handed
def S__law_passed : SS := sRet (callE 2 f__law_pick (aC (vr 0) (aC (asD (lstE (aC (asD (op1 tupleM (vq 1))) (aC (asD (op1 listM (vq 1))) (aN))))) (aN))))
def f__law_passed : List D → M RV := runF [("pen" : Str), ("row" : Str)] S__law_passed
def S__law_ratio : SS := sRet (callE 2 f__law_q (aC (asD (op2 subM (asD (callE 2 f__law_draw (aC (vr 0) (aC (asD (op2 addA (asD (op2 mulM (kk (.int 2)) (vq 1))) (kk (.int 1)))) (aN))))) (vq 1))) (aC (asD (callE 2 f__law_pick (aC (vr 0) (aC (asD (lstE (aC (kk (.int 1)) (aC (kk (.int 1)) (aC (kk (.int 2)) (aC (kk (.int 3)) (aN))))))) (aN))))) (aN))))
def f__law_ratio : List D → M RV := runF [("pen" : Str), ("most" : Str)] S__law_ratio
def S__law_sum : SS := sSeq (sSet 1 (asR (tupE (aC (kk (.int 0)) (aC (kk (.int 1)) (aN)))))) (sSeq (sFor (itS (vr 0)) (.nm 2) (sFrz [1] (sSet 1 (callE 2 f__law_plus (aC (vr 1) (aC (vr 2) (aN))))))) (sRetO 1))
def f__law_sum : List D → M RV := runF [("rows" : Str), ("found" : Str), ("item" : Str)] S__law_sum
def L_0 : Ev → M RV := callE 3 f_power_sums (aC (vr 0) (aC (vr 1) (aC (vr 2) (aN))))
def L_1 : Ev → M RV := callE 3 f_power_sums (aC (tupE (aC (kk (.int 1)) (aN))) (aC (vr 0) (aC (vr 1) (aN))))
def L_2 : Ev → M RV := callE 3 f_power_sums (aC (tupE (aC (kk (.int 1)) (aN))) (aC (tupE (aC (kk (.int 2)) (aN))) (aC (vr 0) (aN))))
def L_3 : Ev → M RV := callE 3 f_hankel (aC (vr 0) (aC (vr 1) (aC (vr 2) (aN))))
def L_4 : Ev → M RV := callE 3 f_hankel (aC (tupE (aC (kk (.int 1)) (aC (kk (.int 2)) (aC (kk (.int 3)) (aN))))) (aC (vr 0) (aC (vr 1) (aN))))
def L_5 : Ev → M RV := callE 3 f_hankel (aC (tupE (aC (kk (.int 1)) (aC (kk (.int 2)) (aC (kk (.int 3)) (aN))))) (aC (kk (.int 2)) (aC (vr 0) (aN))))
def L_6 : Ev → M RV := callE 3 f_hankel (aC (tupE (aC (kk (.int 1)) (aC (kk (.int 2)) (aC (kk (.int 3)) (aN))))) (aC (kk (.int 2)) (aC (kk (.int 1)) (aN))))
def lamT (i : Nat) (m : List (Str × D)) : M RV := match i with
  | 0 => lamR [("bad" : Str), ("wrong" : Str), ("far" : Str)] L_0 m
  | 1 => lamR [("wrong" : Str), ("far" : Str)] L_1 m
  | 2 => lamR [("far" : Str)] L_2 m
  | 3 => lamR [("long" : Str), ("low" : Str), ("start" : Str)] L_3 m
  | 4 => lamR [("low" : Str), ("start" : Str)] L_4 m
  | 5 => lamR [("start" : Str)] L_5 m
  | 6 => lamR ([] : List Str) L_6 m
  | _ => stuck
def S__law_fault (m : List (Str × D)) : SS := sSeq (sTry 1 [(fun i => decide (i = 1), sRet (asR (tupE (aC (kk (.str ("lot" : Str))) (aC (xfE 1 1 [("lot" : Str)] "lot") (aN)))))), (fun i => decide (i = 0), sRet (asR (tupE (aC (kk (.str ("number" : Str))) (aC (xfE 1 0 [("what" : Str), ("number" : Str)] "what") (aC (xfE 1 0 [("what" : Str), ("number" : Str)] "number") (aN))))))), (fun i => decide (i = 2), sRet (asR (tupE (aC (kk (.str ("row" : Str))) (aC (xfE 1 2 [("row" : Str)] "row") (aN)))))), (fun i => decide (i = 3), sRet (asR (tupE (aC (kk (.str ("table" : Str))) (aC (xfE 1 3 [("table" : Str)] "table") (aN)))))), (fun i => decide (i = 5), sRet (asR (tupE (aC (kk (.str ("many" : Str))) (aC (xfE 1 5 [("what" : Str), ("many" : Str), ("limit" : Str)] "what") (aC (xfE 1 5 [("what" : Str), ("many" : Str), ("limit" : Str)] "many") (aC (xfE 1 5 [("what" : Str), ("many" : Str), ("limit" : Str)] "limit") (aN)))))))), (fun i => decide (i = 4), sRet (asR (tupE (aC (kk (.str ("unlike" : Str))) (aC (xfE 1 4 [("what" : Str)] "what") (aN))))))] (sExp (workE 0 (fun i => lamT i m)))) (sRet (asR (kk .non)))
def f__law_fault (m : List (Str × D)) : List D → M RV := runF [("work" : Str), ("fault" : Str)] (S__law_fault m)
def S__law_are_due (m : List (Str × D)) : SS := sRet (op1 allM (asD (compE (itS (vq 0)) (.tp [1, 2]) (fun _ => pure true) (asD (op2 eqM (asD (op1 reprM (asD (callE 1 (f__law_fault m) (aC (vr 1) (aN)))))) (asD (op1 reprM (vq 2))))) [1, 2])))
def f__law_are_due (m : List (Str × D)) : List D → M RV := runF [("tries" : Str), ("work" : Str), ("due" : Str)] (S__law_are_due m)
def S__law_given_row : SS := sRet (callE 2 f__law_passed (aC (vr 0) (aC (asD (compE (itS (vq 1)) (.nm 2) (fun _ => pure true) (asD (callE 2 f__law_handed (aC (vr 0) (aC (vr 2) (aN))))) [2])) (aN))))
def f__law_given_row : List D → M RV := runF [("pen" : Str), ("row" : Str), ("item" : Str)] S__law_given_row
def S__law_power_row : SS := sSeq (sParR 3 4 (lstE (aN)) (op1 listM (vq 1))) (sSeq (sFor (itR1 (vq 2)) (.nm 5) (sSeq (sFrz [4] (sApp 3 (asD (callE 1 f__law_sum (aC (vr 4) (aN)))))) (sSet 4 (compE (itZA (vq 4) (vq 0)) (.tp [6, 7]) (fun _ => pure true) (asD (callE 2 f__law_times (aC (vr 6) (aC (vr 7) (aN))))) [6, 7])))) (sRet (op1 tupleM (vq 3))))
def f__law_power_row : List D → M RV := runF [("points" : Str), ("weights" : Str), ("many" : Str), ("found" : Str), ("here" : Str), ("lap" : Str), ("a" : Str), ("b" : Str)] S__law_power_row
def S__law_square_of : SS := sRet (op1 tupleM (asD (compE (itR1 (vq 1)) (.nm 3) (fun _ => pure true) (asD (op1 tupleM (asD (compE (itR1 (vq 1)) (.nm 4) (fun _ => pure true) (asD (op2 ixM (vq 0) (asD (op2 addA (asD (op2 addA (vq 3) (vq 4))) (vq 2))))) [4])))) [3])))
def f__law_square_of : List D → M RV := runF [("row" : Str), ("size" : Str), ("start" : Str), ("i" : Str), ("j" : Str)] S__law_square_of
def S__law_case : SS := sSeq (sSet 1 (op2 addA (kk (.int 1)) (asD (callE 2 f__law_draw (aC (vr 0) (aC (kk (.int 5)) (aN))))))) (sSeq (sPar 2 3 (asD (op1 tupleM (asD (compE (itR1 (vq 1)) (.nm 15) (fun _ => pure true) (asD (callE 2 f__law_ratio (aC (vr 0) (aC (kk (.int 4)) (aN))))) [15])))) (asD (op1 tupleM (asD (compE (itR1 (vq 1)) (.nm 15) (fun _ => pure true) (asD (callE 2 f__law_ratio (aC (vr 0) (aC (kk (.int 4)) (aN))))) [15]))))) (sSeq (sSet 4 (op2 addA (kk (.int 1)) (asD (callE 2 f__law_draw (aC (vr 0) (aC (kk (.int 12)) (aN))))))) (sSeq (sSet 5 (callE 3 f_power_sums (aC (asD (callE 2 f__law_given_row (aC (vr 0) (aC (vr 2) (aN))))) (aC (asD (callE 2 f__law_given_row (aC (vr 0) (aC (vr 3) (aN))))) (aC (vr 4) (aN)))))) (sSeq (sIf (tstE (op2 neM (asD (op1 reprM (vq 5))) (asD (op1 reprM (asD (callE 3 f__law_power_row (aC (vr 2) (aC (vr 3) (aC (vr 4) (aN)))))))))) (sRet (asR (kk (.bl false)))) (sNil)) (sSeq (sSet 6 (callE 2 f__law_draw (aC (vr 0) (aC (kk (.int 2)) (aN))))) (sSeq (sFrz [8] (sSet 7 (compE (itR2 (kk (.int 1)) (kk (.int 7))) (.nm 8) (tstE (op2 leM (asD (op2 addA (asD (op2 subM (asD (op2 mulM (kk (.int 2)) (vq 8))) (kk (.int 1)))) (vq 6))) (vq 4))) (vr 8) [8]))) (sSeq (sIf (tstE (op2 neM (vq 7) (asD (lstE (aN))))) (sSeq (sFrz [7] (sSet 8 (callE 2 f__law_pick (aC (vr 0) (aC (vr 7) (aN)))))) (sSeq (sFrz [5, 6, 8] (sSet 9 (callE 3 f_hankel (aC (asD (callE 2 f__law_given_row (aC (vr 0) (aC (vr 5) (aN))))) (aC (vr 8) (aC (vr 6) (aN))))))) (sSeq (sFrz [5, 6, 8] (sIf (tstE (op2 neM (asD (op1 reprM (vq 9))) (asD (op1 reprM (asD (callE 3 f__law_square_of (aC (vr 5) (aC (vr 8) (aC (vr 6) (aN)))))))))) (sRet (asR (kk (.bl false)))) (sNil))) (sSeq (sSet 10 (ifR (tstE (op2 eqM (vq 6) (kk (.int 1)))) (op1 tupleM (asD (compE (itZA (vq 3) (vq 2)) (.tp [19, 20]) (fun _ => pure true) (asD (callE 2 f__law_times (aC (vr 19) (aC (vr 20) (aN))))) [19, 20]))) (asR (vr 3)))) (sSeq (sFrz [8] (sSet 11 (callE 2 f_power_table (aC (vr 2) (aC (vr 8) (aN)))))) (sFrz [11] (sIf (tstE (op2 neM (asD (callE 2 f_product (aC (asD (callE 2 f_product (aC (asD (callE 1 f_turned (aC (vr 11) (aN)))) (aC (asD (callE 1 f_diagonal_table (aC (vr 10) (aN)))) (aN))))) (aC (vr 11) (aN))))) (vq 9))) (sRet (asR (kk (.bl false)))) (sNil)))))))) (sNil)) (sSeq (sSet 12 (callE 2 f__law_pick (aC (vr 0) (aC (asD (lstE (aC (tupE (aC (kk (.int 2)) (aC (kk (.int 1)) (aN)))) (aC (tupE (aC (asD (op1 negM (kk (.int 1)))) (aC (kk (.int 1)) (aN)))) (aC (tupE (aC (kk (.int 1)) (aC (kk (.int 2)) (aN)))) (aN)))))) (aN))))) (sSeq (sFrz [12] (sSet 13 (callE 3 f_power_sums (aC (asD (op1 tupleM (asD (compE (itS (vq 2)) (.nm 21) (fun _ => pure true) (asD (callE 2 f__law_times (aC (vr 12) (aC (vr 21) (aN))))) [21])))) (aC (vr 3) (aC (vr 4) (aN))))))) (sSeq (sSet 14 (asR (tupE (aC (kk (.int 1)) (aC (kk (.int 1)) (aN)))))) (sSeq (sFor (itR1 (vq 4)) (.nm 15) (sSeq (sFrz [14] (sIf (tstE (op2 neM (asD (op2 ixM (vq 13) (vq 15))) (asD (callE 2 f__law_times (aC (vr 14) (aC (asD (op2 ixM (vq 5) (vq 15))) (aN))))))) (sRet (asR (kk (.bl false)))) (sNil))) (sFrz [12, 14] (sSet 14 (callE 2 f__law_times (aC (vr 14) (aC (vr 12) (aN)))))))) (sSeq (sSet 16 (op2 addA (kk (.int 1)) (asD (callE 2 f__law_draw (aC (vr 0) (aC (vr 1) (aN))))))) (sSeq (sIf (tstE (op2 ltM (vq 16) (vq 1))) (sSeq (sPar 17 18 (asD (callE 3 f_power_sums (aC (asD (slE (vq 2) (pN) (pS (vq 16)))) (aC (asD (slE (vq 3) (pN) (pS (vq 16)))) (aC (vr 4) (aN)))))) (asD (callE 3 f_power_sums (aC (asD (slE (vq 2) (pS (vq 16)) (pN))) (aC (asD (slE (vq 3) (pS (vq 16)) (pN))) (aC (vr 4) (aN))))))) (sRet (op2 eqM (asD (op1 tupleM (asD (compE (itZA (vq 17) (vq 18)) (.tp [19, 20]) (fun _ => pure true) (asD (callE 2 f__law_plus (aC (vr 19) (aC (vr 20) (aN))))) [19, 20])))) (vq 5)))) (sNil)) (sRet (asR (kk (.bl true)))))))))))))))))
def f__law_case : List D → M RV := runF [("pen" : Str), ("few" : Str), ("points" : Str), ("weights" : Str), ("many" : Str), ("row" : Str), ("start" : Str), ("sizes" : Str), ("size" : Str), ("table" : Str), ("led" : Str), ("powers" : Str), ("by" : Str), ("far" : Str), ("here" : Str), ("k" : Str), ("cut" : Str), ("one" : Str), ("two" : Str), ("a" : Str), ("b" : Str), ("item" : Str)] S__law_case
def capL : List (Str × Nat) := [("bad", 2), ("wrong", 3), ("far", 4), ("long", 7), ("low", 5), ("start", 6)]
def S_law : SS := sSeq (sSet 1 (callE 1 f__law_pen (aC (vr 0) (aN)))) (sSeq (sFrz [1] (sIf (notT (truE (asD (op1 allM (asD (compE (itR1 (kk (.int 4))) (.nm 9) (fun _ => pure true) (asD (callE 1 f__law_case (aC (vr 1) (aN)))) [9])))))) (sRet (asR (kk (.bl false)))) (sNil))) (sSeq (sFrz [1] (sTg (.tp [2, 3]) (tupE (aC (asD (callE 2 f__law_pick (aC (vr 1) (aC (asD (lstE (aC (kk .non) (aC (kk (.int 5)) (aC (tupE (aN)) (aC (tupE (aC (kk (.str ("1" : Str))) (aN))) (aC (tupE (aC (kk (.bl true)) (aN))) (aC (tupE (aC (tupE (aC (kk (.int 1)) (aC (kk (.int 0)) (aN)))) (aN))) (aC (asD (op2 mulM (tupE (aC (kk (.int 1)) (aN))) (kk (.int 7)))) (aC (kk (.str ("1" : Str))) (aN))))))))))) (aN))))) (aC (asD (callE 2 f__law_pick (aC (vr 1) (aC (asD (lstE (aC (kk .non) (aC (kk (.int 5)) (aC (tupE (aN)) (aC (tupE (aC (kk (.int 1)) (aC (kk (.int 2)) (aN)))) (aC (tupE (aC (kk (.str ("1" : Str))) (aN))) (aC (tupE (aC (kk (.bl true)) (aN))) (aN))))))))) (aN))))) (aN)))))) (sSeq (sFrz [1] (sTg (.tp [4, 5, 6]) (tupE (aC (asD (callE 2 f__law_pick (aC (vr 1) (aC (asD (lstE (aC (kk (.int 0)) (aC (kk (.int 13)) (aC (kk .non) (aC (kk (.bl true)) (aC (kk (.str ("2" : Str))) (aN)))))))) (aN))))) (aC (asD (callE 2 f__law_pick (aC (vr 1) (aC (asD (lstE (aC (kk (.int 0)) (aC (kk (.int 7)) (aC (kk .non) (aC (kk (.bl true)) (aN))))))) (aN))))) (aC (asD (callE 2 f__law_pick (aC (vr 1) (aC (asD (lstE (aC (kk (.int 2)) (aC (asD (op1 negM (kk (.int 1)))) (aC (kk .non) (aC (kk (.bl true)) (aN))))))) (aN))))) (aN))))))) (sSeq (sFrz [1] (sSet 7 (callE 2 f__law_pick (aC (vr 1) (aC (asD (lstE (aC (kk .non) (aC (kk (.int 5)) (aC (tupE (aN)) (aC (tupE (aC (kk (.str ("1" : Str))) (aN))) (aC (tupE (aC (kk (.bl true)) (aN))) (aC (asD (op2 mulM (tupE (aC (kk (.int 1)) (aN))) (kk (.int 13)))) (aN))))))))) (aN)))))) (sSeq (sSet 8 (lstE (aC (tupE (aC (kk (.clo 0)) (aC (tupE (aC (kk (.str ("row" : Str))) (aC (vr 2) (aN)))) (aN)))) (aN)))) (sSeq (sApp 8 (tupE (aC (kk (.clo 1)) (aC (tupE (aC (kk (.str ("row" : Str))) (aC (vr 3) (aN)))) (aN))))) (sSeq (sApp 8 (tupE (aC (kk (.clo 2)) (aC (tupE (aC (kk (.str ("number" : Str))) (aC (kk (.str ("many" : Str))) (aC (vr 4) (aN))))) (aN))))) (sSeq (sFrz [7] (sApp 8 (tupE (aC (kk (.clo 3)) (aC (tupE (aC (kk (.str ("row" : Str))) (aC (vr 7) (aN)))) (aN)))))) (sSeq (sApp 8 (tupE (aC (kk (.clo 4)) (aC (tupE (aC (kk (.str ("number" : Str))) (aC (kk (.str ("size" : Str))) (aC (vr 5) (aN))))) (aN))))) (sSeq (sApp 8 (tupE (aC (kk (.clo 5)) (aC (tupE (aC (kk (.str ("number" : Str))) (aC (kk (.str ("start" : Str))) (aC (vr 6) (aN))))) (aN))))) (sSeq (sApp 8 (tupE (aC (kk (.clo 6)) (aC (tupE (aC (kk (.str ("unlike" : Str))) (aC (kk (.str ("size" : Str))) (aN)))) (aN))))) (sFrz [8] (sRet (callA capL 1 f__law_are_due (aC (vr 8) (aN))))))))))))))))
def N_law : List Str := [("script" : Str), ("pen" : Str), ("bad" : Str), ("wrong" : Str), ("far" : Str), ("low" : Str), ("start" : Str), ("long" : Str), ("tries" : Str), ("lap" : Str)]
end K78

set_option Elab.async false
set_option linter.all false
set_option maxRecDepth 100000
set_option maxHeartbeats 4000000
namespace K78
open PySem PySem.Spec PyProof.Rows L2 Dn
structure Gx (P : Program) (w : World) (K : PySem.W.Frag) (mg : Str → Option Value) (base : Heap) (pa : PAd) : Prop where
  KX : K.In base
  gn : base.Ns mainGlobals mg
  t : He.SaysD fa fn K
  more : ex K = true
  exA : pa.exA = (excL.map (·.1)).map (He.ga K)
  lams : pa.lams = lamL
section
variable {P : Program} {w : World} {K : PySem.W.Frag} {mg : Str → Option Value} {base : Heap} {pa : PAd}
theorem Gx.am (G : Gx P w K mg base pa) (m : List (Str × D)) : Gx P w K mg base (pa.am m) := ⟨G.KX, G.gn, G.t, G.more, G.exA, G.lams⟩
theorem Gx.made (G : Gx P w K mg base pa) (cc : List (Str × Addr)) : Gx P w K mg base (pa.made cc) := ⟨G.KX, G.gn, G.t, G.more, G.exA, G.lams⟩
theorem Gx.gcd (G : Gx P w K mg base pa) : mg ("gcd" : Str) = some (.builtin "math.gcd") := gcdB_ok G.KX G.gn (ba (ba (ba G.more).2).2).1
theorem Gx.con (G : Gx P w K mg base pa) (i : Nat) {x : Str} {d : D} (h : conL[i]? = some (x, d)) : ∃ v u, mg x = some u ∧ RelV v u ∧ ∀ g, RepV K pa g v d := gkonB_ok G.KX G.gn (List.all_eq_true.mp (ba (ba (ba G.more).2).2).2 _ (List.mem_of_getElem? h))
theorem Gx.sm (G : Gx P w K mg base pa) : SmK K := smB_ok (ba (ba G.more).1).2
theorem Gx.excs (G : Gx P w K mg base pa) : excsB K excL = true := (ba (ba G.more).2).1
theorem Gx.exc (G : Gx P w K mg base pa) (i : Nat) {x : Str} {ns : List Str} (h : excL[i]? = some (x, ns) := by rfl) : ExcK K x ns := excB_ok (List.all_eq_true.mp (ba G.excs).1 _ (List.mem_of_getElem? h))
theorem Gx.exm (G : Gx P w K mg base pa) (j : Nat) {x : Str} (hx : (excL.map (·.1)).getD j Str.empty = x := by rfl) (hj : j < (excL.map (·.1)).length := by decide) : ∀ (i : Nat) (C : Addr), pa.exA[i]? = some C → PySem.W.exmOne K (.ref C) (.ref (He.ga K x)) = some (decide (i = j)) := by
  rw [← hx]
  exact exmB_at (ba G.excs).2 G.exA j hj
theorem Gx.exC (G : Gx P w K mg base pa) (i : Nat) {x : Str} {ns : List Str} (h : excL[i]? = some (x, ns) := by rfl) : pa.exA[i]? = some (He.ga K x) := by
  rw [G.exA, List.getElem?_map, List.getElem?_map, h]
  rfl
theorem excD_0 (G : Gx P w K mg base pa) : ExcD P w K mg base "BadNumber" [("what" : Str), ("number" : Str)] := by
  obtain ⟨fd, F⟩ := G.t.def_ 0 (d := d0) rfl
  exact excD_of (st := meth (top 3) 0) (G.exc 0) (He.glo_ok G.KX G.gn (G.t.fact 1 (f := .glo "BadNumber") rfl)) F (baseB_ok (ba (ba G.more).1).1) (He.glo_ok G.KX G.gn (G.t.fact 0 (f := .glo "MinorError") rfl)) (by show InitB _ _; exact .mk (.cons (.cons (.nil))) rfl) ⟨rfl, rfl, rfl, by decide +kernel, rfl, by decide +kernel, by decide +kernel⟩ rfl (by decide) (by decide) (by decide) (FunD.bindsN F fun _ _ _ _ _ _ us hl => match us, hl with | [_, _, _], _ => rfl)
theorem excD_1 (G : Gx P w K mg base pa) : ExcD P w K mg base "BadLot" [("lot" : Str)] := by
  obtain ⟨fd, F⟩ := G.t.def_ 1 (d := d1) rfl
  exact excD_of (st := meth (top 4) 0) (G.exc 1) (He.glo_ok G.KX G.gn (G.t.fact 2 (f := .glo "BadLot") rfl)) F (baseB_ok (ba (ba G.more).1).1) (He.glo_ok G.KX G.gn (G.t.fact 0 (f := .glo "MinorError") rfl)) (by show InitB _ _; exact .mk (.cons (.nil)) rfl) ⟨rfl, rfl, rfl, by decide +kernel, rfl, by decide +kernel, by decide +kernel⟩ rfl (by decide) (by decide) (by decide) (FunD.bindsN F fun _ _ _ _ _ _ us hl => match us, hl with | [_, _], _ => rfl)
theorem excD_2 (G : Gx P w K mg base pa) : ExcD P w K mg base "BadRow" [("row" : Str)] := by
  obtain ⟨fd, F⟩ := G.t.def_ 2 (d := d2) rfl
  exact excD_of (st := meth (top 5) 0) (G.exc 2) (He.glo_ok G.KX G.gn (G.t.fact 3 (f := .glo "BadRow") rfl)) F (baseB_ok (ba (ba G.more).1).1) (He.glo_ok G.KX G.gn (G.t.fact 0 (f := .glo "MinorError") rfl)) (by show InitB _ _; exact .mk (.cons (.nil)) rfl) ⟨rfl, rfl, rfl, by decide +kernel, rfl, by decide +kernel, by decide +kernel⟩ rfl (by decide) (by decide) (by decide) (FunD.bindsN F fun _ _ _ _ _ _ us hl => match us, hl with | [_, _], _ => rfl)
theorem excD_3 (G : Gx P w K mg base pa) : ExcD P w K mg base "BadTable" [("table" : Str)] := by
  obtain ⟨fd, F⟩ := G.t.def_ 3 (d := d3) rfl
  exact excD_of (st := meth (top 6) 0) (G.exc 3) (He.glo_ok G.KX G.gn (G.t.fact 4 (f := .glo "BadTable") rfl)) F (baseB_ok (ba (ba G.more).1).1) (He.glo_ok G.KX G.gn (G.t.fact 0 (f := .glo "MinorError") rfl)) (by show InitB _ _; exact .mk (.cons (.nil)) rfl) ⟨rfl, rfl, rfl, by decide +kernel, rfl, by decide +kernel, by decide +kernel⟩ rfl (by decide) (by decide) (by decide) (FunD.bindsN F fun _ _ _ _ _ _ us hl => match us, hl with | [_, _], _ => rfl)
theorem excD_4 (G : Gx P w K mg base pa) : ExcD P w K mg base "Unlike" [("what" : Str)] := by
  obtain ⟨fd, F⟩ := G.t.def_ 4 (d := d4) rfl
  exact excD_of (st := meth (top 7) 0) (G.exc 4) (He.glo_ok G.KX G.gn (G.t.fact 5 (f := .glo "Unlike") rfl)) F (baseB_ok (ba (ba G.more).1).1) (He.glo_ok G.KX G.gn (G.t.fact 0 (f := .glo "MinorError") rfl)) (by show InitB _ _; exact .mk (.cons (.nil)) rfl) ⟨rfl, rfl, rfl, by decide +kernel, rfl, by decide +kernel, by decide +kernel⟩ rfl (by decide) (by decide) (by decide) (FunD.bindsN F fun _ _ _ _ _ _ us hl => match us, hl with | [_, _], _ => rfl)
theorem excD_5 (G : Gx P w K mg base pa) : ExcD P w K mg base "TooMany" [("what" : Str), ("many" : Str), ("limit" : Str)] := by
  obtain ⟨fd, F⟩ := G.t.def_ 5 (d := d5) rfl
  exact excD_of (st := meth (top 8) 0) (G.exc 5) (He.glo_ok G.KX G.gn (G.t.fact 6 (f := .glo "TooMany") rfl)) F (baseB_ok (ba (ba G.more).1).1) (He.glo_ok G.KX G.gn (G.t.fact 0 (f := .glo "MinorError") rfl)) (by show InitB _ _; exact .mk (.cons (.cons (.cons (.nil)))) rfl) ⟨rfl, rfl, rfl, by decide +kernel, rfl, by decide +kernel, by decide +kernel⟩ rfl (by decide) (by decide) (by decide) (FunD.bindsN F fun _ _ _ _ _ _ us hl => match us, hl with | [_, _, _, _], _ => rfl)
theorem Gx.excD (G : Gx P w K mg base pa) (i : Nat) {x : Str} {ns : List Str} (h : excL[i]? = some (x, ns) := by rfl) : ExcD P w K mg base x ns := by
  match i, h with
  | 0, h => cases h; exact excD_0 G
  | 1, h => cases h; exact excD_1 G
  | 2, h => cases h; exact excD_2 G
  | 3, h => cases h; exact excD_3 G
  | 4, h => cases h; exact excD_4 G
  | 5, h => cases h; exact excD_5 G
  | n + 6, h => cases h
theorem D_is_whole (G : Gx P w K mg base pa) : Def P w K mg base 1 pa exF "is_whole" 1 f_is_whole := by
  obtain ⟨fd, F⟩ := G.t.def_ 6 (d := d6) rfl
  refine ⟨_, fd, [("value" : Str)], rfl, fnG_of (N := [("value" : Str)]) F ⟨rfl, rfl, rfl, by decide +kernel, rfl, by decide +kernel, by decide +kernel⟩ (fun cdv A outer s H E g hr hgd => ?_), (He.glo_ok G.KX G.gn (G.t.fact 7 (f := .glo "is_whole") rfl)), F.kp, (FunD.bindsN F fun _ _ _ _ _ _ us hl => match us, hl with | [_], _ => rfl)⟩
  have C := ctx_fn (P := P) (w := w) (K := K) (mg := mg) (base := base) (N := [("value" : Str)]) (E := E) (pa := pa) (exF := exF) (g := g) (H := H) (k := 0) (outer := outer) hr hgd (by decide) G.sm
  exact z1 (zRet (pe_R (vA C (pe_frz (fIs1 C (He.free_ok G.KX G.gn (G.t.fact 54 (f := .free "isinstance") rfl)) (tyN (id := "int") (He.free_ok G.KX G.gn (G.t.fact 53 (f := .free "int") rfl)) (by decide +kernel)) (nQ 0))) (vA1 (pe_frz (uNot C (pe_Q (pe_frz (fIs1 C (He.free_ok G.KX G.gn (G.t.fact 54 (f := .free "isinstance") rfl)) (tyN (id := "bool") (He.free_ok G.KX G.gn (G.t.fact 52 (f := .free "bool") rfl)) (by decide +kernel)) (nQ 0))))))))))
theorem D_r0_in_tuples (G : Gx P w K mg base pa) : Def P w K mg base 1 pa exF "in_tuples" 1 f_r0_in_tuples := by
  obtain ⟨fd, F⟩ := G.t.def_ 7 (d := d7) rfl
  exact ⟨_, fd, [("value" : Str)], rfl, fnG_stuck, (He.glo_ok G.KX G.gn (G.t.fact 8 (f := .glo "in_tuples") rfl)), F.kp, (FunD.bindsN F fun _ _ _ _ _ _ us hl => match us, hl with | [_], _ => rfl)⟩
theorem D_r1_in_tuples (G : Gx P w K mg base pa) : Def P w K mg base 2 pa exF "in_tuples" 1 f_r1_in_tuples := by
  obtain ⟨fd, F⟩ := G.t.def_ 7 (d := d7) rfl
  refine ⟨_, fd, [("value" : Str)], rfl, fnG_of (N := [("value" : Str), ("item" : Str)]) F ⟨rfl, rfl, rfl, by decide +kernel, rfl, by decide +kernel, by decide +kernel⟩ (fun cdv A outer s H E g hr hgd => ?_), (He.glo_ok G.KX G.gn (G.t.fact 8 (f := .glo "in_tuples") rfl)), F.kp, (FunD.bindsN F fun _ _ _ _ _ _ us hl => match us, hl with | [_], _ => rfl)⟩
  have C := ctx_fn (P := P) (w := w) (K := K) (mg := mg) (base := base) (N := [("value" : Str), ("item" : Str)]) (E := E) (pa := pa) (exF := exF) (g := g) (H := H) (k := 1) (outer := outer) hr hgd (by decide) G.sm
  exact zC (zIf (tNot (tru C (pe_Q (pe_frz (fIsT C (ts := ["tuple", "list"]) (He.free_ok G.KX G.gn (G.t.fact 54 (f := .free "isinstance") rfl)) (tys2 (tyN (id := "tuple") (He.free_ok G.KX G.gn (G.t.fact 59 (f := .free "tuple") rfl)) (by decide +kernel)) (tyN (id := "list") (He.free_ok G.KX G.gn (G.t.fact 56 (f := .free "list") rfl)) (by decide +kernel))) (nQ 0)))))) (z1 (zRet (pe_R (nE 0)))) (z0)) (z1 (zRet (fTuple (He.free_ok G.KX G.gn (G.t.fact 59 (f := .free "tuple") rfl)) (pe_Q (pe_frz (lcR C (T := (.nm 1)) (own := [(("item" : Str), 1)]) (it_seqQ C.K (nQ 0)) (by rfl) (by decide) (fun s H env A fp C' => ⟨(gN 1), pe_frz (fD C' (D_r0_in_tuples G) (aCC (nE 1) (pa_N)))⟩)))) C)))
theorem D_r2_in_tuples (G : Gx P w K mg base pa) : Def P w K mg base 3 pa exF "in_tuples" 1 f_r2_in_tuples := by
  obtain ⟨fd, F⟩ := G.t.def_ 7 (d := d7) rfl
  refine ⟨_, fd, [("value" : Str)], rfl, fnG_of (N := [("value" : Str), ("item" : Str)]) F ⟨rfl, rfl, rfl, by decide +kernel, rfl, by decide +kernel, by decide +kernel⟩ (fun cdv A outer s H E g hr hgd => ?_), (He.glo_ok G.KX G.gn (G.t.fact 8 (f := .glo "in_tuples") rfl)), F.kp, (FunD.bindsN F fun _ _ _ _ _ _ us hl => match us, hl with | [_], _ => rfl)⟩
  have C := ctx_fn (P := P) (w := w) (K := K) (mg := mg) (base := base) (N := [("value" : Str), ("item" : Str)]) (E := E) (pa := pa) (exF := exF) (g := g) (H := H) (k := 2) (outer := outer) hr hgd (by decide) G.sm
  exact zC (zIf (tNot (tru C (pe_Q (pe_frz (fIsT C (ts := ["tuple", "list"]) (He.free_ok G.KX G.gn (G.t.fact 54 (f := .free "isinstance") rfl)) (tys2 (tyN (id := "tuple") (He.free_ok G.KX G.gn (G.t.fact 59 (f := .free "tuple") rfl)) (by decide +kernel)) (tyN (id := "list") (He.free_ok G.KX G.gn (G.t.fact 56 (f := .free "list") rfl)) (by decide +kernel))) (nQ 0)))))) (z1 (zRet (pe_R (nE 0)))) (z0)) (z1 (zRet (fTuple (He.free_ok G.KX G.gn (G.t.fact 59 (f := .free "tuple") rfl)) (pe_Q (pe_frz (lcR C (T := (.nm 1)) (own := [(("item" : Str), 1)]) (it_seqQ C.K (nQ 0)) (by rfl) (by decide) (fun s H env A fp C' => ⟨(gN 1), pe_frz (fD C' (D_r1_in_tuples G) (aCC (nE 1) (pa_N)))⟩)))) C)))
theorem D_r3_in_tuples (G : Gx P w K mg base pa) : Def P w K mg base 4 pa exF "in_tuples" 1 f_r3_in_tuples := by
  obtain ⟨fd, F⟩ := G.t.def_ 7 (d := d7) rfl
  refine ⟨_, fd, [("value" : Str)], rfl, fnG_of (N := [("value" : Str), ("item" : Str)]) F ⟨rfl, rfl, rfl, by decide +kernel, rfl, by decide +kernel, by decide +kernel⟩ (fun cdv A outer s H E g hr hgd => ?_), (He.glo_ok G.KX G.gn (G.t.fact 8 (f := .glo "in_tuples") rfl)), F.kp, (FunD.bindsN F fun _ _ _ _ _ _ us hl => match us, hl with | [_], _ => rfl)⟩
  have C := ctx_fn (P := P) (w := w) (K := K) (mg := mg) (base := base) (N := [("value" : Str), ("item" : Str)]) (E := E) (pa := pa) (exF := exF) (g := g) (H := H) (k := 3) (outer := outer) hr hgd (by decide) G.sm
  exact zC (zIf (tNot (tru C (pe_Q (pe_frz (fIsT C (ts := ["tuple", "list"]) (He.free_ok G.KX G.gn (G.t.fact 54 (f := .free "isinstance") rfl)) (tys2 (tyN (id := "tuple") (He.free_ok G.KX G.gn (G.t.fact 59 (f := .free "tuple") rfl)) (by decide +kernel)) (tyN (id := "list") (He.free_ok G.KX G.gn (G.t.fact 56 (f := .free "list") rfl)) (by decide +kernel))) (nQ 0)))))) (z1 (zRet (pe_R (nE 0)))) (z0)) (z1 (zRet (fTuple (He.free_ok G.KX G.gn (G.t.fact 59 (f := .free "tuple") rfl)) (pe_Q (pe_frz (lcR C (T := (.nm 1)) (own := [(("item" : Str), 1)]) (it_seqQ C.K (nQ 0)) (by rfl) (by decide) (fun s H env A fp C' => ⟨(gN 1), pe_frz (fD C' (D_r2_in_tuples G) (aCC (nE 1) (pa_N)))⟩)))) C)))
theorem D_r4_in_tuples (G : Gx P w K mg base pa) : Def P w K mg base 5 pa exF "in_tuples" 1 f_r4_in_tuples := by
  obtain ⟨fd, F⟩ := G.t.def_ 7 (d := d7) rfl
  refine ⟨_, fd, [("value" : Str)], rfl, fnG_of (N := [("value" : Str), ("item" : Str)]) F ⟨rfl, rfl, rfl, by decide +kernel, rfl, by decide +kernel, by decide +kernel⟩ (fun cdv A outer s H E g hr hgd => ?_), (He.glo_ok G.KX G.gn (G.t.fact 8 (f := .glo "in_tuples") rfl)), F.kp, (FunD.bindsN F fun _ _ _ _ _ _ us hl => match us, hl with | [_], _ => rfl)⟩
  have C := ctx_fn (P := P) (w := w) (K := K) (mg := mg) (base := base) (N := [("value" : Str), ("item" : Str)]) (E := E) (pa := pa) (exF := exF) (g := g) (H := H) (k := 4) (outer := outer) hr hgd (by decide) G.sm
  exact zC (zIf (tNot (tru C (pe_Q (pe_frz (fIsT C (ts := ["tuple", "list"]) (He.free_ok G.KX G.gn (G.t.fact 54 (f := .free "isinstance") rfl)) (tys2 (tyN (id := "tuple") (He.free_ok G.KX G.gn (G.t.fact 59 (f := .free "tuple") rfl)) (by decide +kernel)) (tyN (id := "list") (He.free_ok G.KX G.gn (G.t.fact 56 (f := .free "list") rfl)) (by decide +kernel))) (nQ 0)))))) (z1 (zRet (pe_R (nE 0)))) (z0)) (z1 (zRet (fTuple (He.free_ok G.KX G.gn (G.t.fact 59 (f := .free "tuple") rfl)) (pe_Q (pe_frz (lcR C (T := (.nm 1)) (own := [(("item" : Str), 1)]) (it_seqQ C.K (nQ 0)) (by rfl) (by decide) (fun s H env A fp C' => ⟨(gN 1), pe_frz (fD C' (D_r3_in_tuples G) (aCC (nE 1) (pa_N)))⟩)))) C)))
theorem D_r5_in_tuples (G : Gx P w K mg base pa) : Def P w K mg base 6 pa exF "in_tuples" 1 f_r5_in_tuples := by
  obtain ⟨fd, F⟩ := G.t.def_ 7 (d := d7) rfl
  refine ⟨_, fd, [("value" : Str)], rfl, fnG_of (N := [("value" : Str), ("item" : Str)]) F ⟨rfl, rfl, rfl, by decide +kernel, rfl, by decide +kernel, by decide +kernel⟩ (fun cdv A outer s H E g hr hgd => ?_), (He.glo_ok G.KX G.gn (G.t.fact 8 (f := .glo "in_tuples") rfl)), F.kp, (FunD.bindsN F fun _ _ _ _ _ _ us hl => match us, hl with | [_], _ => rfl)⟩
  have C := ctx_fn (P := P) (w := w) (K := K) (mg := mg) (base := base) (N := [("value" : Str), ("item" : Str)]) (E := E) (pa := pa) (exF := exF) (g := g) (H := H) (k := 5) (outer := outer) hr hgd (by decide) G.sm
  exact zC (zIf (tNot (tru C (pe_Q (pe_frz (fIsT C (ts := ["tuple", "list"]) (He.free_ok G.KX G.gn (G.t.fact 54 (f := .free "isinstance") rfl)) (tys2 (tyN (id := "tuple") (He.free_ok G.KX G.gn (G.t.fact 59 (f := .free "tuple") rfl)) (by decide +kernel)) (tyN (id := "list") (He.free_ok G.KX G.gn (G.t.fact 56 (f := .free "list") rfl)) (by decide +kernel))) (nQ 0)))))) (z1 (zRet (pe_R (nE 0)))) (z0)) (z1 (zRet (fTuple (He.free_ok G.KX G.gn (G.t.fact 59 (f := .free "tuple") rfl)) (pe_Q (pe_frz (lcR C (T := (.nm 1)) (own := [(("item" : Str), 1)]) (it_seqQ C.K (nQ 0)) (by rfl) (by decide) (fun s H env A fp C' => ⟨(gN 1), pe_frz (fD C' (D_r4_in_tuples G) (aCC (nE 1) (pa_N)))⟩)))) C)))
theorem D_r6_in_tuples (G : Gx P w K mg base pa) : Def P w K mg base 7 pa exF "in_tuples" 1 f_r6_in_tuples := by
  obtain ⟨fd, F⟩ := G.t.def_ 7 (d := d7) rfl
  refine ⟨_, fd, [("value" : Str)], rfl, fnG_of (N := [("value" : Str), ("item" : Str)]) F ⟨rfl, rfl, rfl, by decide +kernel, rfl, by decide +kernel, by decide +kernel⟩ (fun cdv A outer s H E g hr hgd => ?_), (He.glo_ok G.KX G.gn (G.t.fact 8 (f := .glo "in_tuples") rfl)), F.kp, (FunD.bindsN F fun _ _ _ _ _ _ us hl => match us, hl with | [_], _ => rfl)⟩
  have C := ctx_fn (P := P) (w := w) (K := K) (mg := mg) (base := base) (N := [("value" : Str), ("item" : Str)]) (E := E) (pa := pa) (exF := exF) (g := g) (H := H) (k := 6) (outer := outer) hr hgd (by decide) G.sm
  exact zC (zIf (tNot (tru C (pe_Q (pe_frz (fIsT C (ts := ["tuple", "list"]) (He.free_ok G.KX G.gn (G.t.fact 54 (f := .free "isinstance") rfl)) (tys2 (tyN (id := "tuple") (He.free_ok G.KX G.gn (G.t.fact 59 (f := .free "tuple") rfl)) (by decide +kernel)) (tyN (id := "list") (He.free_ok G.KX G.gn (G.t.fact 56 (f := .free "list") rfl)) (by decide +kernel))) (nQ 0)))))) (z1 (zRet (pe_R (nE 0)))) (z0)) (z1 (zRet (fTuple (He.free_ok G.KX G.gn (G.t.fact 59 (f := .free "tuple") rfl)) (pe_Q (pe_frz (lcR C (T := (.nm 1)) (own := [(("item" : Str), 1)]) (it_seqQ C.K (nQ 0)) (by rfl) (by decide) (fun s H env A fp C' => ⟨(gN 1), pe_frz (fD C' (D_r5_in_tuples G) (aCC (nE 1) (pa_N)))⟩)))) C)))
theorem D_r7_in_tuples (G : Gx P w K mg base pa) : Def P w K mg base 8 pa exF "in_tuples" 1 f_r7_in_tuples := by
  obtain ⟨fd, F⟩ := G.t.def_ 7 (d := d7) rfl
  refine ⟨_, fd, [("value" : Str)], rfl, fnG_of (N := [("value" : Str), ("item" : Str)]) F ⟨rfl, rfl, rfl, by decide +kernel, rfl, by decide +kernel, by decide +kernel⟩ (fun cdv A outer s H E g hr hgd => ?_), (He.glo_ok G.KX G.gn (G.t.fact 8 (f := .glo "in_tuples") rfl)), F.kp, (FunD.bindsN F fun _ _ _ _ _ _ us hl => match us, hl with | [_], _ => rfl)⟩
  have C := ctx_fn (P := P) (w := w) (K := K) (mg := mg) (base := base) (N := [("value" : Str), ("item" : Str)]) (E := E) (pa := pa) (exF := exF) (g := g) (H := H) (k := 7) (outer := outer) hr hgd (by decide) G.sm
  exact zC (zIf (tNot (tru C (pe_Q (pe_frz (fIsT C (ts := ["tuple", "list"]) (He.free_ok G.KX G.gn (G.t.fact 54 (f := .free "isinstance") rfl)) (tys2 (tyN (id := "tuple") (He.free_ok G.KX G.gn (G.t.fact 59 (f := .free "tuple") rfl)) (by decide +kernel)) (tyN (id := "list") (He.free_ok G.KX G.gn (G.t.fact 56 (f := .free "list") rfl)) (by decide +kernel))) (nQ 0)))))) (z1 (zRet (pe_R (nE 0)))) (z0)) (z1 (zRet (fTuple (He.free_ok G.KX G.gn (G.t.fact 59 (f := .free "tuple") rfl)) (pe_Q (pe_frz (lcR C (T := (.nm 1)) (own := [(("item" : Str), 1)]) (it_seqQ C.K (nQ 0)) (by rfl) (by decide) (fun s H env A fp C' => ⟨(gN 1), pe_frz (fD C' (D_r6_in_tuples G) (aCC (nE 1) (pa_N)))⟩)))) C)))
theorem D_r8_in_tuples (G : Gx P w K mg base pa) : Def P w K mg base 9 pa exF "in_tuples" 1 f_r8_in_tuples := by
  obtain ⟨fd, F⟩ := G.t.def_ 7 (d := d7) rfl
  refine ⟨_, fd, [("value" : Str)], rfl, fnG_of (N := [("value" : Str), ("item" : Str)]) F ⟨rfl, rfl, rfl, by decide +kernel, rfl, by decide +kernel, by decide +kernel⟩ (fun cdv A outer s H E g hr hgd => ?_), (He.glo_ok G.KX G.gn (G.t.fact 8 (f := .glo "in_tuples") rfl)), F.kp, (FunD.bindsN F fun _ _ _ _ _ _ us hl => match us, hl with | [_], _ => rfl)⟩
  have C := ctx_fn (P := P) (w := w) (K := K) (mg := mg) (base := base) (N := [("value" : Str), ("item" : Str)]) (E := E) (pa := pa) (exF := exF) (g := g) (H := H) (k := 8) (outer := outer) hr hgd (by decide) G.sm
  exact zC (zIf (tNot (tru C (pe_Q (pe_frz (fIsT C (ts := ["tuple", "list"]) (He.free_ok G.KX G.gn (G.t.fact 54 (f := .free "isinstance") rfl)) (tys2 (tyN (id := "tuple") (He.free_ok G.KX G.gn (G.t.fact 59 (f := .free "tuple") rfl)) (by decide +kernel)) (tyN (id := "list") (He.free_ok G.KX G.gn (G.t.fact 56 (f := .free "list") rfl)) (by decide +kernel))) (nQ 0)))))) (z1 (zRet (pe_R (nE 0)))) (z0)) (z1 (zRet (fTuple (He.free_ok G.KX G.gn (G.t.fact 59 (f := .free "tuple") rfl)) (pe_Q (pe_frz (lcR C (T := (.nm 1)) (own := [(("item" : Str), 1)]) (it_seqQ C.K (nQ 0)) (by rfl) (by decide) (fun s H env A fp C' => ⟨(gN 1), pe_frz (fD C' (D_r7_in_tuples G) (aCC (nE 1) (pa_N)))⟩)))) C)))
theorem D_need_between (G : Gx P w K mg base pa) : Def P w K mg base 3 pa exF "need_between" 4 f_need_between := by
  obtain ⟨fd, F⟩ := G.t.def_ 8 (d := d8) rfl
  refine ⟨_, fd, [("what" : Str), ("number" : Str), ("low" : Str), ("high" : Str)], rfl, fnG_of (N := [("what" : Str), ("number" : Str), ("low" : Str), ("high" : Str)]) F ⟨rfl, rfl, rfl, by decide +kernel, rfl, by decide +kernel, by decide +kernel⟩ (fun cdv A outer s H E g hr hgd => ?_), (He.glo_ok G.KX G.gn (G.t.fact 9 (f := .glo "need_between") rfl)), F.kp, (FunD.bindsN F fun _ _ _ _ _ _ us hl => match us, hl with | [_, _, _, _], _ => rfl)⟩
  have C := ctx_fn (P := P) (w := w) (K := K) (mg := mg) (base := base) (N := [("what" : Str), ("number" : Str), ("low" : Str), ("high" : Str)]) (E := E) (pa := pa) (exF := exF) (g := g) (H := H) (k := 2) (outer := outer) hr hgd (by decide) G.sm
  exact zC (zIf (tNot (tru C (pe_Q (pe_frz (fD C (D_is_whole G) (aCC (nE 1) (pa_N))))))) (z1 (zRaise C 0 (G.excD 0) (aCC (nE 0) (aCC (nE 1) (pa_N))) (G.exC 0) rfl)) (z0)) (z1 (zIf ((wO ((wA (tcmp (cIsn) (nQ 2) (pe_Q (kN))) (wA1 (tcmp (cLt) (nQ 1) (nQ 2)))).pt) (wO1 ((wA (tcmp (cIsn) (nQ 3) (pe_Q (kN))) (wA1 (tcmp (cGt) (nQ 1) (nQ 3)))).pt))).pt) (z1 (zRaise C 0 (G.excD 0) (aCC (nE 0) (aCC (nE 1) (pa_N))) (G.exC 0) rfl)) (z0)))
theorem D_is_pair (G : Gx P w K mg base pa) : Def P w K mg base 2 pa exF "is_pair" 1 f_is_pair := by
  obtain ⟨fd, F⟩ := G.t.def_ 9 (d := d9) rfl
  refine ⟨_, fd, [("value" : Str)], rfl, fnG_of (N := [("value" : Str)]) F ⟨rfl, rfl, rfl, by decide +kernel, rfl, by decide +kernel, by decide +kernel⟩ (fun cdv A outer s H E g hr hgd => ?_), (He.glo_ok G.KX G.gn (G.t.fact 10 (f := .glo "is_pair") rfl)), F.kp, (FunD.bindsN F fun _ _ _ _ _ _ us hl => match us, hl with | [_], _ => rfl)⟩
  have C := ctx_fn (P := P) (w := w) (K := K) (mg := mg) (base := base) (N := [("value" : Str)]) (E := E) (pa := pa) (exF := exF) (g := g) (H := H) (k := 1) (outer := outer) hr hgd (by decide) G.sm
  exact zC (zIf ((wO (tNot (tru C (pe_Q (pe_frz (fIsT C (ts := ["tuple", "list"]) (He.free_ok G.KX G.gn (G.t.fact 54 (f := .free "isinstance") rfl)) (tys2 (tyN (id := "tuple") (He.free_ok G.KX G.gn (G.t.fact 59 (f := .free "tuple") rfl)) (by decide +kernel)) (tyN (id := "list") (He.free_ok G.KX G.gn (G.t.fact 56 (f := .free "list") rfl)) (by decide +kernel))) (nQ 0)))))) (wO1 (tcmp (cNe C) (pe_Q (pe_frz (fLen (He.free_ok G.KX G.gn (G.t.fact 55 (f := .free "len") rfl)) (nQ 0) C))) (pe_Q (kI))))).pt) (z1 (zRet (pe_R (kB)))) (z0)) (z1 (zRet (pe_R (vA C (pe_frz (fD C (D_is_whole G) (aCC (pe_frz (ix C (nQ 0) (pe_Q (kI)))) (pa_N)))) (vA C (pe_frz (fD C (D_is_whole G) (aCC (pe_frz (ix C (nQ 0) (pe_Q (kI)))) (pa_N)))) (vA1 (pe_frz (cmp (cGt) (pe_Q (pe_frz (ix C (nQ 0) (pe_Q (kI))))) (pe_Q (kI))))))))))
theorem D_lowest (G : Gx P w K mg base pa) : Def P w K mg base 1 pa exF "lowest" 2 f_lowest := by
  obtain ⟨fd, F⟩ := G.t.def_ 10 (d := d10) rfl
  refine ⟨_, fd, [("top" : Str), ("bottom" : Str)], rfl, fnG_of (N := [("top" : Str), ("bottom" : Str), ("by" : Str)]) F ⟨rfl, rfl, rfl, by decide +kernel, rfl, by decide +kernel, by decide +kernel⟩ (fun cdv A outer s H E g hr hgd => ?_), (He.glo_ok G.KX G.gn (G.t.fact 11 (f := .glo "lowest") rfl)), F.kp, (FunD.bindsN F fun _ _ _ _ _ _ us hl => match us, hl with | [_, _], _ => rfl)⟩
  have C := ctx_fn (P := P) (w := w) (K := K) (mg := mg) (base := base) (N := [("top" : Str), ("bottom" : Str), ("by" : Str)]) (E := E) (pa := pa) (exF := exF) (g := g) (H := H) (k := 0) (outer := outer) hr hgd (by decide) G.sm
  exact zC (zSet C 2 (ite (tcmp (cGt) (nQ 1) (pe_Q (kI))) (fGcd G.gcd (nQ 0) (nQ 1)) (uNeg (pe_Q (pe_frz (fGcd G.gcd (nQ 0) (nQ 1))))))) (z1 (zRet (pe_R (pe_tupE (aCC (pe_frz (bin (bDiv) (nQ 0) (nQ 2))) (aCC (pe_frz (bin (bDiv) (nQ 1) (nQ 2))) (pa_N)))))))
theorem D_summed (G : Gx P w K mg base pa) : Def P w K mg base 2 pa exF "summed" 2 f_summed := by
  obtain ⟨fd, F⟩ := G.t.def_ 11 (d := d11) rfl
  refine ⟨_, fd, [("one" : Str), ("other" : Str)], rfl, fnG_of (N := [("one" : Str), ("other" : Str)]) F ⟨rfl, rfl, rfl, by decide +kernel, rfl, by decide +kernel, by decide +kernel⟩ (fun cdv A outer s H E g hr hgd => ?_), (He.glo_ok G.KX G.gn (G.t.fact 12 (f := .glo "summed") rfl)), F.kp, (FunD.bindsN F fun _ _ _ _ _ _ us hl => match us, hl with | [_, _], _ => rfl)⟩
  have C := ctx_fn (P := P) (w := w) (K := K) (mg := mg) (base := base) (N := [("one" : Str), ("other" : Str)]) (E := E) (pa := pa) (exF := exF) (g := g) (H := H) (k := 1) (outer := outer) hr hgd (by decide) G.sm
  exact z1 (zRet (fD C (D_lowest G) (aCC (pe_frz (bin (bAddA C) (pe_Q (pe_frz (bin (bMul C) (pe_Q (pe_frz (ix C (nQ 0) (pe_Q (kI))))) (pe_Q (pe_frz (ix C (nQ 1) (pe_Q (kI)))))))) (pe_Q (pe_frz (bin (bMul C) (pe_Q (pe_frz (ix C (nQ 1) (pe_Q (kI))))) (pe_Q (pe_frz (ix C (nQ 0) (pe_Q (kI)))))))))) (aCC (pe_frz (bin (bMul C) (pe_Q (pe_frz (ix C (nQ 0) (pe_Q (kI))))) (pe_Q (pe_frz (ix C (nQ 1) (pe_Q (kI))))))) (pa_N)))))
theorem D_scaled (G : Gx P w K mg base pa) : Def P w K mg base 2 pa exF "scaled" 2 f_scaled := by
  obtain ⟨fd, F⟩ := G.t.def_ 12 (d := d12) rfl
  refine ⟨_, fd, [("one" : Str), ("other" : Str)], rfl, fnG_of (N := [("one" : Str), ("other" : Str)]) F ⟨rfl, rfl, rfl, by decide +kernel, rfl, by decide +kernel, by decide +kernel⟩ (fun cdv A outer s H E g hr hgd => ?_), (He.glo_ok G.KX G.gn (G.t.fact 13 (f := .glo "scaled") rfl)), F.kp, (FunD.bindsN F fun _ _ _ _ _ _ us hl => match us, hl with | [_, _], _ => rfl)⟩
  have C := ctx_fn (P := P) (w := w) (K := K) (mg := mg) (base := base) (N := [("one" : Str), ("other" : Str)]) (E := E) (pa := pa) (exF := exF) (g := g) (H := H) (k := 1) (outer := outer) hr hgd (by decide) G.sm
  exact z1 (zRet (fD C (D_lowest G) (aCC (pe_frz (bin (bMul C) (pe_Q (pe_frz (ix C (nQ 0) (pe_Q (kI))))) (pe_Q (pe_frz (ix C (nQ 1) (pe_Q (kI))))))) (aCC (pe_frz (bin (bMul C) (pe_Q (pe_frz (ix C (nQ 0) (pe_Q (kI))))) (pe_Q (pe_frz (ix C (nQ 1) (pe_Q (kI))))))) (pa_N)))))
theorem D_is_loose (G : Gx P w K mg base pa) : Def P w K mg base 3 pa exF "is_loose" 1 f_is_loose := by
  obtain ⟨fd, F⟩ := G.t.def_ 13 (d := d13) rfl
  refine ⟨_, fd, [("value" : Str)], rfl, fnG_of (N := [("value" : Str)]) F ⟨rfl, rfl, rfl, by decide +kernel, rfl, by decide +kernel, by decide +kernel⟩ (fun cdv A outer s H E g hr hgd => ?_), (He.glo_ok G.KX G.gn (G.t.fact 14 (f := .glo "is_loose") rfl)), F.kp, (FunD.bindsN F fun _ _ _ _ _ _ us hl => match us, hl with | [_], _ => rfl)⟩
  have C := ctx_fn (P := P) (w := w) (K := K) (mg := mg) (base := base) (N := [("value" : Str)]) (E := E) (pa := pa) (exF := exF) (g := g) (H := H) (k := 2) (outer := outer) hr hgd (by decide) G.sm
  exact z1 (zRet (pe_R (vO C (pe_frz (fD C (D_is_whole G) (aCC (nE 0) (pa_N)))) (vO1 (vA C (pe_frz (fIs1 C (He.free_ok G.KX G.gn (G.t.fact 54 (f := .free "isinstance") rfl)) (tyN (id := "tuple") (He.free_ok G.KX G.gn (G.t.fact 59 (f := .free "tuple") rfl)) (by decide +kernel)) (nQ 0))) (vA1 (pe_frz (fD C (D_is_pair G) (aCC (nE 0) (pa_N))))))))))
theorem D_told_ratio (G : Gx P w K mg base pa) : Def P w K mg base 2 pa exF "told_ratio" 1 f_told_ratio := by
  obtain ⟨fd, F⟩ := G.t.def_ 14 (d := d14) rfl
  refine ⟨_, fd, [("value" : Str)], rfl, fnG_of (N := [("value" : Str)]) F ⟨rfl, rfl, rfl, by decide +kernel, rfl, by decide +kernel, by decide +kernel⟩ (fun cdv A outer s H E g hr hgd => ?_), (He.glo_ok G.KX G.gn (G.t.fact 15 (f := .glo "told_ratio") rfl)), F.kp, (FunD.bindsN F fun _ _ _ _ _ _ us hl => match us, hl with | [_], _ => rfl)⟩
  have C := ctx_fn (P := P) (w := w) (K := K) (mg := mg) (base := base) (N := [("value" : Str)]) (E := E) (pa := pa) (exF := exF) (g := g) (H := H) (k := 1) (outer := outer) hr hgd (by decide) G.sm
  exact z1 (zRet (ite (tru C (pe_Q (pe_frz (fD C (D_is_whole G) (aCC (nE 0) (pa_N)))))) (pe_R (pe_tupE (aCC (nE 0) (aCC (kI) (pa_N))))) (fD C (D_lowest G) (aCC (pe_frz (ix C (nQ 0) (pe_Q (kI)))) (aCC (pe_frz (ix C (nQ 0) (pe_Q (kI)))) (pa_N))))))
theorem D_loose_row (G : Gx P w K mg base pa) : Def P w K mg base 4 pa exF "loose_row" 1 f_loose_row := by
  obtain ⟨fd, F⟩ := G.t.def_ 15 (d := d15) rfl
  refine ⟨_, fd, [("value" : Str)], rfl, fnG_of (N := [("value" : Str), ("item" : Str)]) F ⟨rfl, rfl, rfl, by decide +kernel, rfl, by decide +kernel, by decide +kernel⟩ (fun cdv A outer s H E g hr hgd => ?_), (He.glo_ok G.KX G.gn (G.t.fact 16 (f := .glo "loose_row") rfl)), F.kp, (FunD.bindsN F fun _ _ _ _ _ _ us hl => match us, hl with | [_], _ => rfl)⟩
  have C := ctx_fn (P := P) (w := w) (K := K) (mg := mg) (base := base) (N := [("value" : Str), ("item" : Str)]) (E := E) (pa := pa) (exF := exF) (g := g) (H := H) (k := 3) (outer := outer) hr hgd (by decide) G.sm
  exact zC (zIf ((wO (tNot (tru C (pe_Q (pe_frz (fIs1 C (He.free_ok G.KX G.gn (G.t.fact 54 (f := .free "isinstance") rfl)) (tyN (id := "tuple") (He.free_ok G.KX G.gn (G.t.fact 59 (f := .free "tuple") rfl)) (by decide +kernel)) (nQ 0)))))) (wO1 (tNot (tru C (pe_Q (pe_frz (fAll (He.free_ok G.KX G.gn (G.t.fact 51 (f := .free "all") rfl)) (pe_Q (pe_frz (lcR C (T := (.nm 1)) (own := [(("item" : Str), 1)]) (it_seqQ C.K (nQ 0)) (by rfl) (by decide) (fun s H env A fp C' => ⟨(gN 1), pe_frz (fD C' (D_is_loose G) (aCC (nE 1) (pa_N)))⟩)))) C))))))).pt) (z1 (zRet (pe_R (kN)))) (z0)) (z1 (zRet (fTuple (He.free_ok G.KX G.gn (G.t.fact 59 (f := .free "tuple") rfl)) (pe_Q (pe_frz (lcR C (T := (.nm 1)) (own := [(("item" : Str), 1)]) (it_seqQ C.K (nQ 0)) (by rfl) (by decide) (fun s H env A fp C' => ⟨(gN 1), pe_frz (fD C' (D_told_ratio G) (aCC (nE 1) (pa_N)))⟩)))) C)))
theorem D_row_from (G : Gx P w K mg base pa) : Def P w K mg base 10 pa exF "row_from" 3 f_row_from := by
  obtain ⟨fd, F⟩ := G.t.def_ 16 (d := d16) rfl
  refine ⟨_, fd, [("row" : Str), ("least" : Str), ("most" : Str)], rfl, fnG_of (N := [("row" : Str), ("least" : Str), ("most" : Str), ("made" : Str)]) F ⟨rfl, rfl, rfl, by decide +kernel, rfl, by decide +kernel, by decide +kernel⟩ (fun cdv A outer s H E g hr hgd => ?_), (He.glo_ok G.KX G.gn (G.t.fact 17 (f := .glo "row_from") rfl)), F.kp, (FunD.bindsN F fun _ _ _ _ _ _ us hl => match us, hl with | [_, _, _], _ => rfl)⟩
  have C := ctx_fn (P := P) (w := w) (K := K) (mg := mg) (base := base) (N := [("row" : Str), ("least" : Str), ("most" : Str), ("made" : Str)]) (E := E) (pa := pa) (exF := exF) (g := g) (H := H) (k := 9) (outer := outer) hr hgd (by decide) G.sm
  exact zC (zSet C 3 (fD C (D_loose_row G) (aCC (pe_frz (fD C (D_r8_in_tuples G) (aCC (nE 0) (pa_N)))) (pa_N)))) (zC (zIf ((wO (tcmp (cIs) (nQ 3) (pe_Q (kN))) (wO1 (tNot (chT (cLe) (cLe) (nQ 1) (pe_Q (pe_frz (fLen (He.free_ok G.KX G.gn (G.t.fact 55 (f := .free "len") rfl)) (nQ 3) C))) (nQ 2))))).pt) (z1 (zRaise C 2 (G.excD 2) (aCC (nE 0) (pa_N)) (G.exC 2) rfl)) (z0)) (z1 (zRetO 3)))
theorem D_table_from (G : Gx P w K mg base pa) : Def P w K mg base 10 pa exF "table_from" 1 f_table_from := by
  obtain ⟨fd, F⟩ := G.t.def_ 17 (d := d17) rfl
  refine ⟨_, fd, [("table" : Str)], rfl, fnG_of (N := [("table" : Str), ("made" : Str), ("rows" : Str), ("row" : Str)]) F ⟨rfl, rfl, rfl, by decide +kernel, rfl, by decide +kernel, by decide +kernel⟩ (fun cdv A outer s H E g hr hgd => ?_), (He.glo_ok G.KX G.gn (G.t.fact 18 (f := .glo "table_from") rfl)), F.kp, (FunD.bindsN F fun _ _ _ _ _ _ us hl => match us, hl with | [_], _ => rfl)⟩
  have C := ctx_fn (P := P) (w := w) (K := K) (mg := mg) (base := base) (N := [("table" : Str), ("made" : Str), ("rows" : Str), ("row" : Str)]) (E := E) (pa := pa) (exF := exF) (g := g) (H := H) (k := 9) (outer := outer) hr hgd (by decide) G.sm
  exact zC (zSet C 1 (fD C (D_r8_in_tuples G) (aCC (nE 0) (pa_N)))) (zC (zIf ((wO (tNot (tru C (pe_Q (pe_frz (fIs1 C (He.free_ok G.KX G.gn (G.t.fact 54 (f := .free "isinstance") rfl)) (tyN (id := "tuple") (He.free_ok G.KX G.gn (G.t.fact 59 (f := .free "tuple") rfl)) (by decide +kernel)) (nQ 1)))))) (wO1 (tNot (chT (cLe) (cLe) (pe_Q (kI)) (pe_Q (pe_frz (fLen (He.free_ok G.KX G.gn (G.t.fact 55 (f := .free "len") rfl)) (nQ 1) C))) (pe_Q (kgI (He.int_ok G.KX G.gn (G.t.fact 61 (f := .int "MOST" 6) rfl)))))))).pt) (z1 (zRaise C 3 (G.excD 3) (aCC (nE 0) (pa_N)) (G.exC 3) rfl)) (z0)) (zC (zSet C 2 (lcR C (T := (.nm 3)) (own := [(("row" : Str), 3)]) (it_seqQ C.K (nQ 1)) (by rfl) (by decide) (fun s H env A fp C' => ⟨(gN 3), pe_frz (fD C' (D_loose_row G) (aCC (nE 3) (pa_N)))⟩))) (zC (zIf ((wO (tcmp (cIn C) (pe_Q (kN)) (nQ 2)) (wO (tNot (chT (cLe) (cLe) (pe_Q (kI)) (pe_Q (pe_frz (fLen (He.free_ok G.KX G.gn (G.t.fact 55 (f := .free "len") rfl)) (pe_Q (pe_frz (ix C (nQ 2) (pe_Q (kI))))) C))) (pe_Q (kgI (He.int_ok G.KX G.gn (G.t.fact 61 (f := .int "MOST" 6) rfl)))))) (wO1 (tNot (tru C (pe_Q (pe_frz (fAll (He.free_ok G.KX G.gn (G.t.fact 51 (f := .free "all") rfl)) (pe_Q (pe_frz (lcR C (T := (.nm 3)) (own := [(("row" : Str), 3)]) (it_seqQ C.K (nQ 2)) (by rfl) (by decide) (fun s H env A fp C' => ⟨(gN 3), pe_frz (cmp (cEq C') (pe_Q (pe_frz (fLen (He.free_ok G.KX G.gn (G.t.fact 55 (f := .free "len") rfl)) (nQ 3) C'))) (pe_Q (pe_frz (fLen (He.free_ok G.KX G.gn (G.t.fact 55 (f := .free "len") rfl)) (pe_Q (pe_frz (ix C' (nQ 2) (pe_Q (kI))))) C'))))⟩)))) C)))))))).pt) (z1 (zRaise C 3 (G.excD 3) (aCC (nE 0) (pa_N)) (G.exC 3) rfl)) (z0)) (z1 (zRet (fTuple (He.free_ok G.KX G.gn (G.t.fact 59 (f := .free "tuple") rfl)) (nQ 2) C))))))
theorem D_turned_by (G : Gx P w K mg base pa) : Def P w K mg base 1 pa exF "turned_by" 1 f_turned_by := by
  obtain ⟨fd, F⟩ := G.t.def_ 18 (d := d18) rfl
  refine ⟨_, fd, [("table" : Str)], rfl, fnG_of (N := [("table" : Str), ("k" : Str), ("row" : Str)]) F ⟨rfl, rfl, rfl, by decide +kernel, rfl, by decide +kernel, by decide +kernel⟩ (fun cdv A outer s H E g hr hgd => ?_), (He.glo_ok G.KX G.gn (G.t.fact 19 (f := .glo "turned_by") rfl)), F.kp, (FunD.bindsN F fun _ _ _ _ _ _ us hl => match us, hl with | [_], _ => rfl)⟩
  have C := ctx_fn (P := P) (w := w) (K := K) (mg := mg) (base := base) (N := [("table" : Str), ("k" : Str), ("row" : Str)]) (E := E) (pa := pa) (exF := exF) (g := g) (H := H) (k := 0) (outer := outer) hr hgd (by decide) G.sm
  exact z1 (zRet (fTuple (He.free_ok G.KX G.gn (G.t.fact 59 (f := .free "tuple") rfl)) (pe_Q (pe_frz (lcR C (T := (.nm 1)) (own := [(("k" : Str), 1)]) (it_rng1 rfl (He.free_ok G.KX G.gn (G.t.fact 57 (f := .free "range") rfl)) rfl (pe_Q (pe_frz (fLen (He.free_ok G.KX G.gn (G.t.fact 55 (f := .free "len") rfl)) (pe_Q (pe_frz (ix C (nQ 0) (pe_Q (kI))))) C)))) (by rfl) (by decide) (fun s H env A fp C' => ⟨(gN 1), pe_frz (fTuple (He.free_ok G.KX G.gn (G.t.fact 59 (f := .free "tuple") rfl)) (pe_Q (pe_frz (lcR C' (T := (.nm 2)) (own := [(("row" : Str), 2)]) (it_seqQ C'.K (nQ 0)) (by rfl) (by decide) (fun s H env A fp C' => ⟨(gN 2), pe_frz (ix C' (nQ 2) (nQ 1))⟩)))) C')⟩)))) C))
theorem D_turned (G : Gx P w K mg base pa) : Def P w K mg base 11 pa exF "turned" 1 f_turned := by
  obtain ⟨fd, F⟩ := G.t.def_ 19 (d := d19) rfl
  refine ⟨_, fd, [("table" : Str)], rfl, fnG_of (N := [("table" : Str)]) F ⟨rfl, rfl, rfl, by decide +kernel, rfl, by decide +kernel, by decide +kernel⟩ (fun cdv A outer s H E g hr hgd => ?_), (He.glo_ok G.KX G.gn (G.t.fact 20 (f := .glo "turned") rfl)), F.kp, (FunD.bindsN F fun _ _ _ _ _ _ us hl => match us, hl with | [_], _ => rfl)⟩
  have C := ctx_fn (P := P) (w := w) (K := K) (mg := mg) (base := base) (N := [("table" : Str)]) (E := E) (pa := pa) (exF := exF) (g := g) (H := H) (k := 10) (outer := outer) hr hgd (by decide) G.sm
  exact z1 (zRet (fD C (D_turned_by G) (aCC (pe_frz (fD C (D_table_from G) (aCC (nE 0) (pa_N)))) (pa_N))))
theorem D_dot_of (G : Gx P w K mg base pa) : Def P w K mg base 3 pa exF "dot_of" 2 f_dot_of := by
  obtain ⟨fd, F⟩ := G.t.def_ 20 (d := d20) rfl
  refine ⟨_, fd, [("one" : Str), ("other" : Str)], rfl, fnG_of (N := [("one" : Str), ("other" : Str), ("out" : Str), ("a" : Str), ("b" : Str)]) F ⟨rfl, rfl, rfl, by decide +kernel, rfl, by decide +kernel, by decide +kernel⟩ (fun cdv A outer s H E g hr hgd => ?_), (He.glo_ok G.KX G.gn (G.t.fact 21 (f := .glo "dot_of") rfl)), F.kp, (FunD.bindsN F fun _ _ _ _ _ _ us hl => match us, hl with | [_, _], _ => rfl)⟩
  have C := ctx_fn (P := P) (w := w) (K := K) (mg := mg) (base := base) (N := [("one" : Str), ("other" : Str), ("out" : Str), ("a" : Str), ("b" : Str)]) (E := E) (pa := pa) (exF := exF) (g := g) (H := H) (k := 2) (outer := outer) hr hgd (by decide) G.sm
  exact zC (zSet C 2 (pe_R (kgT (G.con 0 rfl)))) (zC (zFor C (passes_of rfl) (.tp [3, 4]) (it_zipAE C.K rfl (He.free_ok G.KX G.gn (G.t.fact 60 (f := .free "zip") rfl)) rfl rfl (nE 0) (nE 1)) (gT2 3 4) (z1 (zIf ((wA (tcmp (cNe C) (nQ 3) (pe_Q (kgT (G.con 0 rfl)))) (wA1 (tcmp (cNe C) (nQ 4) (pe_Q (kgT (G.con 0 rfl)))))).pt) (z1 (zF [2] (zSet C 2 (fD C (D_summed G) (aCC (nE 2) (aCC (pe_frz (fD C (D_scaled G) (aCC (nE 3) (aCC (nE 4) (pa_N))))) (pa_N))))))) (z0)))) (z1 (zRetO 2)))
theorem D_product_by (G : Gx P w K mg base pa) : Def P w K mg base 4 pa exF "product_by" 2 f_product_by := by
  obtain ⟨fd, F⟩ := G.t.def_ 21 (d := d21) rfl
  refine ⟨_, fd, [("one" : Str), ("other" : Str)], rfl, fnG_of (N := [("one" : Str), ("other" : Str), ("columns" : Str), ("row" : Str), ("column" : Str)]) F ⟨rfl, rfl, rfl, by decide +kernel, rfl, by decide +kernel, by decide +kernel⟩ (fun cdv A outer s H E g hr hgd => ?_), (He.glo_ok G.KX G.gn (G.t.fact 22 (f := .glo "product_by") rfl)), F.kp, (FunD.bindsN F fun _ _ _ _ _ _ us hl => match us, hl with | [_, _], _ => rfl)⟩
  have C := ctx_fn (P := P) (w := w) (K := K) (mg := mg) (base := base) (N := [("one" : Str), ("other" : Str), ("columns" : Str), ("row" : Str), ("column" : Str)]) (E := E) (pa := pa) (exF := exF) (g := g) (H := H) (k := 3) (outer := outer) hr hgd (by decide) G.sm
  exact zC (zSet C 2 (fD C (D_turned_by G) (aCC (nE 1) (pa_N)))) (z1 (zRet (fTuple (He.free_ok G.KX G.gn (G.t.fact 59 (f := .free "tuple") rfl)) (pe_Q (pe_frz (lcR C (T := (.nm 3)) (own := [(("row" : Str), 3)]) (it_seqQ C.K (nQ 0)) (by rfl) (by decide) (fun s H env A fp C' => ⟨(gN 3), pe_frz (fTuple (He.free_ok G.KX G.gn (G.t.fact 59 (f := .free "tuple") rfl)) (pe_Q (pe_frz (lcR C' (T := (.nm 4)) (own := [(("column" : Str), 4)]) (it_seqQ C'.K (nQ 2)) (by rfl) (by decide) (fun s H env A fp C' => ⟨(gN 4), pe_frz (fD C' (D_dot_of G) (aCC (nE 3) (aCC (nE 4) (pa_N))))⟩)))) C')⟩)))) C)))
theorem D_product (G : Gx P w K mg base pa) : Def P w K mg base 11 pa exF "product" 2 f_product := by
  obtain ⟨fd, F⟩ := G.t.def_ 22 (d := d22) rfl
  refine ⟨_, fd, [("one" : Str), ("other" : Str)], rfl, fnG_of (N := [("one" : Str), ("other" : Str), ("first" : Str), ("second" : Str)]) F ⟨rfl, rfl, rfl, by decide +kernel, rfl, by decide +kernel, by decide +kernel⟩ (fun cdv A outer s H E g hr hgd => ?_), (He.glo_ok G.KX G.gn (G.t.fact 23 (f := .glo "product") rfl)), F.kp, (FunD.bindsN F fun _ _ _ _ _ _ us hl => match us, hl with | [_, _], _ => rfl)⟩
  have C := ctx_fn (P := P) (w := w) (K := K) (mg := mg) (base := base) (N := [("one" : Str), ("other" : Str), ("first" : Str), ("second" : Str)]) (E := E) (pa := pa) (exF := exF) (g := g) (H := H) (k := 10) (outer := outer) hr hgd (by decide) G.sm
  exact zC (zPar C 2 3 (pe_frz (fD C (D_table_from G) (aCC (nE 0) (pa_N)))) (pe_frz (fD C (D_table_from G) (aCC (nE 1) (pa_N))))) (zC (zIf (tcmp (cNe C) (pe_Q (pe_frz (fLen (He.free_ok G.KX G.gn (G.t.fact 55 (f := .free "len") rfl)) (pe_Q (pe_frz (ix C (nQ 2) (pe_Q (kI))))) C))) (pe_Q (pe_frz (fLen (He.free_ok G.KX G.gn (G.t.fact 55 (f := .free "len") rfl)) (nQ 3) C)))) (z1 (zRaise C 4 (G.excD 4) (aCC (kS) (pa_N)) (G.exC 4) rfl)) (z0)) (z1 (zRet (fD C (D_product_by G) (aCC (nE 2) (aCC (nE 3) (pa_N)))))))
theorem D_power_row (G : Gx P w K mg base pa) : Def P w K mg base 3 pa exF "power_row" 3 f_power_row := by
  obtain ⟨fd, F⟩ := G.t.def_ 23 (d := d23) rfl
  refine ⟨_, fd, [("points" : Str), ("weights" : Str), ("many" : Str)], rfl, fnG_of (N := [("points" : Str), ("weights" : Str), ("many" : Str), ("out" : Str), ("here" : Str), ("lap" : Str), ("total" : Str), ("item" : Str), ("point" : Str)]) F ⟨rfl, rfl, rfl, by decide +kernel, rfl, by decide +kernel, by decide +kernel⟩ (fun cdv A outer s H E g hr hgd => ?_), (He.glo_ok G.KX G.gn (G.t.fact 24 (f := .glo "power_row") rfl)), F.kp, (FunD.bindsN F fun _ _ _ _ _ _ us hl => match us, hl with | [_, _, _], _ => rfl)⟩
  have C := ctx_fn (P := P) (w := w) (K := K) (mg := mg) (base := base) (N := [("points" : Str), ("weights" : Str), ("many" : Str), ("out" : Str), ("here" : Str), ("lap" : Str), ("total" : Str), ("item" : Str), ("point" : Str)]) (E := E) (pa := pa) (exF := exF) (g := g) (H := H) (k := 2) (outer := outer) hr hgd (by decide) G.sm
  exact zC (zParR C 3 4 (pe_lstE (pa_N)) (fList (He.free_ok G.KX G.gn (G.t.fact 56 (f := .free "list") rfl)) (nQ 1) C)) (zC (zFor C (passes_of rfl) (.nm 5) (it_rng1 rfl (He.free_ok G.KX G.gn (G.t.fact 57 (f := .free "range") rfl)) rfl (nQ 2)) (gN 5) (zC (zSet C 6 (pe_R (kgT (G.con 0 rfl)))) (zC (zF [4] (zFor C (passes_of rfl) (.nm 7) (it_seqE C.K (nE 4)) (gN 7) (z1 (zF [6] (zSet C 6 (fD C (D_summed G) (aCC (nE 6) (aCC (nE 7) (pa_N))))))))) (zC (zF [6] (zApp C 3 (nE 6))) (z1 (zLcR C 4 (T := (.tp [7, 8])) (own := [(("item" : Str), 7), (("point" : Str), 8)]) (it_zipAQ C.K rfl (He.free_ok G.KX G.gn (G.t.fact 60 (f := .free "zip") rfl)) rfl rfl (nQ 4) (nQ 0)) (by rfl) (by decide) (fun s H env A fp C' => ⟨(gT2 7 8), pe_frz (fD C' (D_scaled G) (aCC (nE 7) (aCC (nE 8) (pa_N))))⟩))))))) (z1 (zRet (fTuple (He.free_ok G.KX G.gn (G.t.fact 59 (f := .free "tuple") rfl)) (nQ 3) C))))
theorem D_power_sums (G : Gx P w K mg base pa) : Def P w K mg base 11 pa exF "power_sums" 3 f_power_sums := by
  obtain ⟨fd, F⟩ := G.t.def_ 24 (d := d24) rfl
  refine ⟨_, fd, [("points" : Str), ("weights" : Str), ("many" : Str)], rfl, fnG_of (N := [("points" : Str), ("weights" : Str), ("many" : Str), ("first" : Str), ("second" : Str)]) F ⟨rfl, rfl, rfl, by decide +kernel, rfl, by decide +kernel, by decide +kernel⟩ (fun cdv A outer s H E g hr hgd => ?_), (He.glo_ok G.KX G.gn (G.t.fact 25 (f := .glo "power_sums") rfl)), F.kp, (FunD.bindsN F fun _ _ _ _ _ _ us hl => match us, hl with | [_, _, _], _ => rfl)⟩
  have C := ctx_fn (P := P) (w := w) (K := K) (mg := mg) (base := base) (N := [("points" : Str), ("weights" : Str), ("many" : Str), ("first" : Str), ("second" : Str)]) (E := E) (pa := pa) (exF := exF) (g := g) (H := H) (k := 10) (outer := outer) hr hgd (by decide) G.sm
  exact zC (zSet C 3 (fD C (D_row_from G) (aCC (nE 0) (aCC (kI) (aCC (kgI (He.int_ok G.KX G.gn (G.t.fact 61 (f := .int "MOST" 6) rfl))) (pa_N)))))) (zC (zSet C 4 (fD C (D_row_from G) (aCC (nE 1) (aCC (pe_frz (fLen (He.free_ok G.KX G.gn (G.t.fact 55 (f := .free "len") rfl)) (nQ 3) C)) (aCC (pe_frz (fLen (He.free_ok G.KX G.gn (G.t.fact 55 (f := .free "len") rfl)) (nQ 3) C)) (pa_N)))))) (zC (zExp (fD C (D_need_between G) (aCC (kS) (aCC (nE 2) (aCC (kI) (aCC (kgI (He.int_ok G.KX G.gn (G.t.fact 62 (f := .int "MOST_ITEMS" 12) rfl))) (pa_N))))))) (z1 (zF [3, 4] (zRet (fD C (D_power_row G) (aCC (nE 3) (aCC (nE 4) (aCC (nE 2) (pa_N))))))))))
theorem D_hankel_by (G : Gx P w K mg base pa) : Def P w K mg base 1 pa exF "hankel_by" 3 f_hankel_by := by
  obtain ⟨fd, F⟩ := G.t.def_ 25 (d := d25) rfl
  refine ⟨_, fd, [("row" : Str), ("size" : Str), ("start" : Str)], rfl, fnG_of (N := [("row" : Str), ("size" : Str), ("start" : Str), ("i" : Str), ("j" : Str)]) F ⟨rfl, rfl, rfl, by decide +kernel, rfl, by decide +kernel, by decide +kernel⟩ (fun cdv A outer s H E g hr hgd => ?_), (He.glo_ok G.KX G.gn (G.t.fact 26 (f := .glo "hankel_by") rfl)), F.kp, (FunD.bindsN F fun _ _ _ _ _ _ us hl => match us, hl with | [_, _, _], _ => rfl)⟩
  have C := ctx_fn (P := P) (w := w) (K := K) (mg := mg) (base := base) (N := [("row" : Str), ("size" : Str), ("start" : Str), ("i" : Str), ("j" : Str)]) (E := E) (pa := pa) (exF := exF) (g := g) (H := H) (k := 0) (outer := outer) hr hgd (by decide) G.sm
  exact z1 (zRet (fTuple (He.free_ok G.KX G.gn (G.t.fact 59 (f := .free "tuple") rfl)) (pe_Q (pe_frz (lcR C (T := (.nm 3)) (own := [(("i" : Str), 3)]) (it_rng1 rfl (He.free_ok G.KX G.gn (G.t.fact 57 (f := .free "range") rfl)) rfl (nQ 1)) (by rfl) (by decide) (fun s H env A fp C' => ⟨(gN 3), pe_frz (fTuple (He.free_ok G.KX G.gn (G.t.fact 59 (f := .free "tuple") rfl)) (pe_Q (pe_frz (lcR C' (T := (.nm 4)) (own := [(("j" : Str), 4)]) (it_rng1 rfl (He.free_ok G.KX G.gn (G.t.fact 57 (f := .free "range") rfl)) rfl (nQ 1)) (by rfl) (by decide) (fun s H env A fp C' => ⟨(gN 4), pe_frz (ix C' (nQ 0) (pe_Q (pe_frz (bin (bAddA C') (pe_Q (pe_frz (bin (bAddA C') (nQ 3) (nQ 4)))) (nQ 2)))))⟩)))) C')⟩)))) C))
theorem D_hankel (G : Gx P w K mg base pa) : Def P w K mg base 11 pa exF "hankel" 3 f_hankel := by
  obtain ⟨fd, F⟩ := G.t.def_ 26 (d := d26) rfl
  refine ⟨_, fd, [("row" : Str), ("size" : Str), ("start" : Str)], rfl, fnG_of (N := [("row" : Str), ("size" : Str), ("start" : Str), ("made" : Str)]) F ⟨rfl, rfl, rfl, by decide +kernel, rfl, by decide +kernel, by decide +kernel⟩ (fun cdv A outer s H E g hr hgd => ?_), (He.glo_ok G.KX G.gn (G.t.fact 27 (f := .glo "hankel") rfl)), F.kp, (FunD.bindsN F fun _ _ _ _ _ _ us hl => match us, hl with | [_, _, _], _ => rfl)⟩
  have C := ctx_fn (P := P) (w := w) (K := K) (mg := mg) (base := base) (N := [("row" : Str), ("size" : Str), ("start" : Str), ("made" : Str)]) (E := E) (pa := pa) (exF := exF) (g := g) (H := H) (k := 10) (outer := outer) hr hgd (by decide) G.sm
  exact zC (zSet C 3 (fD C (D_row_from G) (aCC (nE 0) (aCC (kI) (aCC (kgI (He.int_ok G.KX G.gn (G.t.fact 62 (f := .int "MOST_ITEMS" 12) rfl))) (pa_N)))))) (zC (zExp (fD C (D_need_between G) (aCC (kS) (aCC (nE 1) (aCC (kI) (aCC (kgI (He.int_ok G.KX G.gn (G.t.fact 61 (f := .int "MOST" 6) rfl))) (pa_N))))))) (zC (zExp (fD C (D_need_between G) (aCC (kS) (aCC (nE 2) (aCC (kI) (aCC (kI) (pa_N))))))) (zC (zIf (tcmp (cLt) (pe_Q (pe_frz (fLen (He.free_ok G.KX G.gn (G.t.fact 55 (f := .free "len") rfl)) (nQ 3) C))) (pe_Q (pe_frz (bin (bAddA C) (pe_Q (pe_frz (bin (bSub) (pe_Q (pe_frz (bin (bMul C) (pe_Q (kI)) (nQ 1)))) (pe_Q (kI))))) (nQ 2))))) (z1 (zRaise C 4 (G.excD 4) (aCC (kS) (pa_N)) (G.exC 4) rfl)) (z0)) (z1 (zF [3] (zRet (fD C (D_hankel_by G) (aCC (nE 3) (aCC (nE 1) (aCC (nE 2) (pa_N)))))))))))
theorem D_power_table (G : Gx P w K mg base pa) : Def P w K mg base 11 pa exF "power_table" 2 f_power_table := by
  obtain ⟨fd, F⟩ := G.t.def_ 27 (d := d27) rfl
  refine ⟨_, fd, [("points" : Str), ("many" : Str)], rfl, fnG_of (N := [("points" : Str), ("many" : Str), ("made" : Str), ("out" : Str), ("point" : Str), ("row" : Str)]) F ⟨rfl, rfl, rfl, by decide +kernel, rfl, by decide +kernel, by decide +kernel⟩ (fun cdv A outer s H E g hr hgd => ?_), (He.glo_ok G.KX G.gn (G.t.fact 28 (f := .glo "power_table") rfl)), F.kp, (FunD.bindsN F fun _ _ _ _ _ _ us hl => match us, hl with | [_, _], _ => rfl)⟩
  have C := ctx_fn (P := P) (w := w) (K := K) (mg := mg) (base := base) (N := [("points" : Str), ("many" : Str), ("made" : Str), ("out" : Str), ("point" : Str), ("row" : Str)]) (E := E) (pa := pa) (exF := exF) (g := g) (H := H) (k := 10) (outer := outer) hr hgd (by decide) G.sm
  exact zC (zSet C 2 (fD C (D_row_from G) (aCC (nE 0) (aCC (kI) (aCC (kgI (He.int_ok G.KX G.gn (G.t.fact 61 (f := .int "MOST" 6) rfl))) (pa_N)))))) (zC (zExp (fD C (D_need_between G) (aCC (kS) (aCC (nE 1) (aCC (kI) (aCC (kgI (He.int_ok G.KX G.gn (G.t.fact 61 (f := .int "MOST" 6) rfl))) (pa_N))))))) (zC (zSet C 3 (pe_lstE (pa_N))) (zC (zF [2] (zFor C (passes_of rfl) (.nm 4) (it_seqE C.K (nE 2)) (gN 4) (zC (zSet C 5 (pe_lstE (aCC (kgT (G.con 1 rfl)) (pa_N)))) (zC (zWh (passes_of rfl) 1000 (tcmp (cLt) (pe_Q (pe_frz (fLen (He.free_ok G.KX G.gn (G.t.fact 55 (f := .free "len") rfl)) (nQ 5) C))) (nQ 1)) (z1 (zApp C 5 (pe_frz (fD C (D_scaled G) (aCC (pe_frz (ix C (nQ 5) (pe_Q (pe_frz (uNeg (pe_Q (kI))))))) (aCC (nE 4) (pa_N)))))))) (z1 (zApp C 3 (pe_frz (fTuple (He.free_ok G.KX G.gn (G.t.fact 59 (f := .free "tuple") rfl)) (nQ 5) C)))))))) (z1 (zRet (fTuple (He.free_ok G.KX G.gn (G.t.fact 59 (f := .free "tuple") rfl)) (nQ 3) C))))))
theorem D_diagonal_by (G : Gx P w K mg base pa) : Def P w K mg base 1 pa exF "diagonal_by" 1 f_diagonal_by := by
  obtain ⟨fd, F⟩ := G.t.def_ 28 (d := d28) rfl
  refine ⟨_, fd, [("row" : Str)], rfl, fnG_of (N := [("row" : Str), ("i" : Str), ("j" : Str)]) F ⟨rfl, rfl, rfl, by decide +kernel, rfl, by decide +kernel, by decide +kernel⟩ (fun cdv A outer s H E g hr hgd => ?_), (He.glo_ok G.KX G.gn (G.t.fact 29 (f := .glo "diagonal_by") rfl)), F.kp, (FunD.bindsN F fun _ _ _ _ _ _ us hl => match us, hl with | [_], _ => rfl)⟩
  have C := ctx_fn (P := P) (w := w) (K := K) (mg := mg) (base := base) (N := [("row" : Str), ("i" : Str), ("j" : Str)]) (E := E) (pa := pa) (exF := exF) (g := g) (H := H) (k := 0) (outer := outer) hr hgd (by decide) G.sm
  exact z1 (zRet (fTuple (He.free_ok G.KX G.gn (G.t.fact 59 (f := .free "tuple") rfl)) (pe_Q (pe_frz (lcR C (T := (.nm 1)) (own := [(("i" : Str), 1)]) (it_rng1 rfl (He.free_ok G.KX G.gn (G.t.fact 57 (f := .free "range") rfl)) rfl (pe_Q (pe_frz (fLen (He.free_ok G.KX G.gn (G.t.fact 55 (f := .free "len") rfl)) (nQ 0) C)))) (by rfl) (by decide) (fun s H env A fp C' => ⟨(gN 1), pe_frz (fTuple (He.free_ok G.KX G.gn (G.t.fact 59 (f := .free "tuple") rfl)) (pe_Q (pe_frz (lcR C' (T := (.nm 2)) (own := [(("j" : Str), 2)]) (it_rng1 rfl (He.free_ok G.KX G.gn (G.t.fact 57 (f := .free "range") rfl)) rfl (pe_Q (pe_frz (fLen (He.free_ok G.KX G.gn (G.t.fact 55 (f := .free "len") rfl)) (nQ 0) C')))) (by rfl) (by decide) (fun s H env A fp C' => ⟨(gN 2), pe_frz (ite (tcmp (cEq C') (nQ 1) (nQ 2)) (ix C' (nQ 0) (nQ 1)) (pe_R (kgT (G.con 0 rfl))))⟩)))) C')⟩)))) C))
theorem D_diagonal_table (G : Gx P w K mg base pa) : Def P w K mg base 11 pa exF "diagonal_table" 1 f_diagonal_table := by
  obtain ⟨fd, F⟩ := G.t.def_ 29 (d := d29) rfl
  refine ⟨_, fd, [("row" : Str)], rfl, fnG_of (N := [("row" : Str)]) F ⟨rfl, rfl, rfl, by decide +kernel, rfl, by decide +kernel, by decide +kernel⟩ (fun cdv A outer s H E g hr hgd => ?_), (He.glo_ok G.KX G.gn (G.t.fact 30 (f := .glo "diagonal_table") rfl)), F.kp, (FunD.bindsN F fun _ _ _ _ _ _ us hl => match us, hl with | [_], _ => rfl)⟩
  have C := ctx_fn (P := P) (w := w) (K := K) (mg := mg) (base := base) (N := [("row" : Str)]) (E := E) (pa := pa) (exF := exF) (g := g) (H := H) (k := 10) (outer := outer) hr hgd (by decide) G.sm
  exact z1 (zRet (fD C (D_diagonal_by G) (aCC (pe_frz (fD C (D_row_from G) (aCC (nE 0) (aCC (kI) (aCC (kgI (He.int_ok G.KX G.gn (G.t.fact 61 (f := .int "MOST" 6) rfl))) (pa_N)))))) (pa_N))))
theorem D__law_pen (G : Gx P w K mg base pa) : Def P w K mg base 1 pa exF "_law_pen" 1 f__law_pen := by
  obtain ⟨fd, F⟩ := G.t.def_ 30 (d := d30) rfl
  refine ⟨_, fd, [("script" : Str)], rfl, fnG_of (N := [("script" : Str), ("fold" : Str), ("cell" : Str)]) F ⟨rfl, rfl, rfl, by decide +kernel, rfl, by decide +kernel, by decide +kernel⟩ (fun cdv A outer s H E g hr hgd => ?_), (He.glo_ok G.KX G.gn (G.t.fact 31 (f := .glo "_law_pen") rfl)), F.kp, (FunD.bindsN F fun _ _ _ _ _ _ us hl => match us, hl with | [_], _ => rfl)⟩
  have C := ctx_fn (P := P) (w := w) (K := K) (mg := mg) (base := base) (N := [("script" : Str), ("fold" : Str), ("cell" : Str)]) (E := E) (pa := pa) (exF := exF) (g := g) (H := H) (k := 0) (outer := outer) hr hgd (by decide) G.sm
  exact zC (zSet C 1 (pe_R (kI))) (zC (zFor C (passes_of rfl) (.nm 2) (it_seqE C.K (nE 0)) (gN 2) (z1 (zSet C 1 (bin (bMod) (pe_Q (pe_frz (fInt (He.free_ok G.KX G.gn (G.t.fact 53 (f := .free "int") rfl)) (pe_Q (pe_frz (bin (bAddA C) (pe_Q (pe_frz (bin (bMul C) (nQ 1) (pe_Q (kI))))) (nQ 2))))))) (pe_Q (kI)))))) (z1 (zRet (pe_R (pe_celE (.cons (pe_frz (fList (He.free_ok G.KX G.gn (G.t.fact 56 (f := .free "list") rfl)) (nQ 0) C)) (.cons (kI) (.cons (kI) (.cons (kI) (.cons (nE 1) (.nil)))))) (by simp) (by decide) (by decide))))))
theorem D__law_draw (G : Gx P w K mg base pa) : Def P w K mg base 1 pa exF "_law_draw" 2 f__law_draw := by
  obtain ⟨fd, F⟩ := G.t.def_ 31 (d := d31) rfl
  refine ⟨_, fd, [("pen" : Str), ("many" : Str)], rfl, fnG_of (N := [("pen" : Str), ("many" : Str), ("cell" : Str), ("digit" : Str), ("blend" : Str)]) F ⟨rfl, rfl, rfl, by decide +kernel, rfl, by decide +kernel, by decide +kernel⟩ (fun cdv A outer s H E g hr hgd => ?_), (He.glo_ok G.KX G.gn (G.t.fact 32 (f := .glo "_law_draw") rfl)), F.kp, (FunD.bindsN F fun _ _ _ _ _ _ us hl => match us, hl with | [_, _], _ => rfl)⟩
  have C := ctx_fn (P := P) (w := w) (K := K) (mg := mg) (base := base) (N := [("pen" : Str), ("many" : Str), ("cell" : Str), ("digit" : Str), ("blend" : Str)]) (E := E) (pa := pa) (exF := exF) (g := g) (H := H) (k := 0) (outer := outer) hr hgd (by decide) G.sm
  exact zC (zPut C (nE 0) (pe_frz (bin (bAddA C) (pe_Q (dget C (nE 0))) (pe_Q (kI))))) (zC (zIf ((wA (tcmp (cEq C) (pe_Q (dget C (nE 0))) (pe_Q (kI))) (wA1 (tcmp (cLt) (pe_Q (dget C (nE 0))) (pe_Q (pe_frz (fLen (He.free_ok G.KX G.gn (G.t.fact 55 (f := .free "len") rfl)) (pe_Q (dget C (nE 0))) C)))))).pt) (zC (zSet C 2 (ix C (pe_Q (dget C (nE 0))) (pe_Q (dget C (nE 0))))) (zC (zPut C (nE 0) (pe_frz (bin (bAddA C) (pe_Q (dget C (nE 0))) (pe_Q (kI))))) (z1 (zIf (tcmp (cGe) (nQ 2) (pe_Q (pe_frz (bin (bPow) (pe_Q (kI)) (pe_Q (kI)))))) (z1 (zPut C (nE 0) (pe_frz (bin (bSub) (nQ 2) (pe_Q (pe_frz (bin (bPow) (pe_Q (kI)) (pe_Q (kI))))))))) (z1 (zPut C (nE 0) (pe_frz (bin (bMod) (pe_Q (pe_frz (fInt (He.free_ok G.KX G.gn (G.t.fact 53 (f := .free "int") rfl)) (pe_Q (pe_frz (bin (bAddA C) (pe_Q (pe_frz (bin (bMul C) (pe_Q (dget C (nE 0))) (pe_Q (kI))))) (nQ 2))))))) (pe_Q (kI)))))))))) (z0)) (zC (zIf (tcmp (cGt) (pe_Q (dget C (nE 0))) (pe_Q (kI))) (zC (zSet C 3 (bin (bMod) (pe_Q (pe_frz (fInt (He.free_ok G.KX G.gn (G.t.fact 53 (f := .free "int") rfl)) (pe_Q (dget C (nE 0)))))) (nQ 1))) (zC (zPut C (nE 0) (pe_frz (bin (bDiv) (pe_Q (dget C (nE 0))) (nQ 1)))) (z1 (zRet (pe_R (nE 3)))))) (z0)) (zC (zSet C 4 (bin (bAddA C) (pe_Q (pe_frz (bin (bAddA C) (pe_Q (dget C (nE 0))) (pe_Q (pe_frz (bin (bMul C) (pe_Q (dget C (nE 0))) (pe_Q (kI)))))))) (pe_Q (kI)))) (z1 (zRet (bin (bMod) (pe_Q (pe_frz (bin (bDiv) (pe_Q (pe_frz (fInt (He.free_ok G.KX G.gn (G.t.fact 53 (f := .free "int") rfl)) (pe_Q (pe_frz (bin (bMod) (pe_Q (pe_frz (bin (bPow) (nQ 4) (pe_Q (kI))))) (pe_Q (kI)))))))) (pe_Q (kI))))) (nQ 1)))))))
theorem D__law_pick (G : Gx P w K mg base pa) : Def P w K mg base 2 pa exF "_law_pick" 2 f__law_pick := by
  obtain ⟨fd, F⟩ := G.t.def_ 32 (d := d32) rfl
  refine ⟨_, fd, [("pen" : Str), ("some" : Str)], rfl, fnG_of (N := [("pen" : Str), ("some" : Str)]) F ⟨rfl, rfl, rfl, by decide +kernel, rfl, by decide +kernel, by decide +kernel⟩ (fun cdv A outer s H E g hr hgd => ?_), (He.glo_ok G.KX G.gn (G.t.fact 33 (f := .glo "_law_pick") rfl)), F.kp, (FunD.bindsN F fun _ _ _ _ _ _ us hl => match us, hl with | [_, _], _ => rfl)⟩
  have C := ctx_fn (P := P) (w := w) (K := K) (mg := mg) (base := base) (N := [("pen" : Str), ("some" : Str)]) (E := E) (pa := pa) (exF := exF) (g := g) (H := H) (k := 1) (outer := outer) hr hgd (by decide) G.sm
  exact z1 (zRet (ix C (nQ 1) (pe_Q (pe_frz (fD C (D__law_draw G) (aCC (nE 0) (aCC (pe_frz (fLen (He.free_ok G.KX G.gn (G.t.fact 55 (f := .free "len") rfl)) (nQ 1) C)) (pa_N))))))))
theorem D__law_gcd (G : Gx P w K mg base pa) : Def P w K mg base 1 pa exF "_law_gcd" 2 f__law_gcd := by
  obtain ⟨fd, F⟩ := G.t.def_ 33 (d := d33) rfl
  refine ⟨_, fd, [("one" : Str), ("two" : Str)], rfl, fnG_of (N := [("one" : Str), ("two" : Str), ("lap" : Str)]) F ⟨rfl, rfl, rfl, by decide +kernel, rfl, by decide +kernel, by decide +kernel⟩ (fun cdv A outer s H E g hr hgd => ?_), (He.glo_ok G.KX G.gn (G.t.fact 34 (f := .glo "_law_gcd") rfl)), F.kp, (FunD.bindsN F fun _ _ _ _ _ _ us hl => match us, hl with | [_, _], _ => rfl)⟩
  have C := ctx_fn (P := P) (w := w) (K := K) (mg := mg) (base := base) (N := [("one" : Str), ("two" : Str), ("lap" : Str)]) (E := E) (pa := pa) (exF := exF) (g := g) (H := H) (k := 0) (outer := outer) hr hgd (by decide) G.sm
  exact zC (zPar C 0 1 (pe_frz (fAbs (He.free_ok G.KX G.gn (G.t.fact 50 (f := .free "abs") rfl)) (nQ 0))) (pe_frz (fAbs (He.free_ok G.KX G.gn (G.t.fact 50 (f := .free "abs") rfl)) (nQ 1)))) (zC (zFor C (passes_of rfl) (.nm 2) (it_rng1 rfl (He.free_ok G.KX G.gn (G.t.fact 57 (f := .free "range") rfl)) rfl (pe_Q (pe_frz (bin (bAddA C) (pe_Q (kI)) (pe_Q (pe_frz (bin (bMul C) (pe_Q (kI)) (pe_Q (pe_frz (fBits (pe_Q (pe_frz (fInt (He.free_ok G.KX G.gn (G.t.fact 53 (f := .free "int") rfl)) (nQ 1)))))))))))))) (gN 2) (zC (zIf (tcmp (cEq C) (nQ 1) (pe_Q (kI))) (z1 (zBrk)) (z0)) (z1 (zPar C 0 1 (nE 1) (pe_frz (bin (bMod) (pe_Q (pe_frz (fInt (He.free_ok G.KX G.gn (G.t.fact 53 (f := .free "int") rfl)) (nQ 0)))) (nQ 1))))))) (z1 (zRet (pe_R (nE 0)))))
theorem D__law_q (G : Gx P w K mg base pa) : Def P w K mg base 2 pa exF "_law_q" 2 f__law_q := by
  obtain ⟨fd, F⟩ := G.t.def_ 34 (d := d34) rfl
  refine ⟨_, fd, [("top" : Str), ("bottom" : Str)], rfl, fnG_of (N := [("top" : Str), ("bottom" : Str), ("by" : Str)]) F ⟨rfl, rfl, rfl, by decide +kernel, rfl, by decide +kernel, by decide +kernel⟩ (fun cdv A outer s H E g hr hgd => ?_), (He.glo_ok G.KX G.gn (G.t.fact 35 (f := .glo "_law_q") rfl)), F.kp, (FunD.bindsN F fun _ _ _ _ _ _ us hl => match us, hl with | [_, _], _ => rfl)⟩
  have C := ctx_fn (P := P) (w := w) (K := K) (mg := mg) (base := base) (N := [("top" : Str), ("bottom" : Str), ("by" : Str)]) (E := E) (pa := pa) (exF := exF) (g := g) (H := H) (k := 1) (outer := outer) hr hgd (by decide) G.sm
  exact zC (zSet C 2 (fD C (D__law_gcd G) (aCC (nE 0) (aCC (nE 1) (pa_N))))) (zC (zF [2] (zSet C 2 (ite (tcmp (cLt) (nQ 1) (pe_Q (kI))) (uNeg (nQ 2)) (pe_R (nE 2))))) (z1 (zRet (pe_R (pe_tupE (aCC (pe_frz (bin (bDiv) (nQ 0) (nQ 2))) (aCC (pe_frz (bin (bDiv) (nQ 1) (nQ 2))) (pa_N))))))))
theorem D__law_plus (G : Gx P w K mg base pa) : Def P w K mg base 3 pa exF "_law_plus" 2 f__law_plus := by
  obtain ⟨fd, F⟩ := G.t.def_ 35 (d := d35) rfl
  refine ⟨_, fd, [("one" : Str), ("two" : Str)], rfl, fnG_of (N := [("one" : Str), ("two" : Str)]) F ⟨rfl, rfl, rfl, by decide +kernel, rfl, by decide +kernel, by decide +kernel⟩ (fun cdv A outer s H E g hr hgd => ?_), (He.glo_ok G.KX G.gn (G.t.fact 36 (f := .glo "_law_plus") rfl)), F.kp, (FunD.bindsN F fun _ _ _ _ _ _ us hl => match us, hl with | [_, _], _ => rfl)⟩
  have C := ctx_fn (P := P) (w := w) (K := K) (mg := mg) (base := base) (N := [("one" : Str), ("two" : Str)]) (E := E) (pa := pa) (exF := exF) (g := g) (H := H) (k := 2) (outer := outer) hr hgd (by decide) G.sm
  exact z1 (zRet (fD C (D__law_q G) (aCC (pe_frz (bin (bAddA C) (pe_Q (pe_frz (bin (bMul C) (pe_Q (pe_frz (ix C (nQ 0) (pe_Q (kI))))) (pe_Q (pe_frz (ix C (nQ 1) (pe_Q (kI)))))))) (pe_Q (pe_frz (bin (bMul C) (pe_Q (pe_frz (ix C (nQ 1) (pe_Q (kI))))) (pe_Q (pe_frz (ix C (nQ 0) (pe_Q (kI)))))))))) (aCC (pe_frz (bin (bMul C) (pe_Q (pe_frz (ix C (nQ 0) (pe_Q (kI))))) (pe_Q (pe_frz (ix C (nQ 1) (pe_Q (kI))))))) (pa_N)))))
theorem D__law_times (G : Gx P w K mg base pa) : Def P w K mg base 3 pa exF "_law_times" 2 f__law_times := by
  obtain ⟨fd, F⟩ := G.t.def_ 36 (d := d36) rfl
  refine ⟨_, fd, [("one" : Str), ("two" : Str)], rfl, fnG_of (N := [("one" : Str), ("two" : Str)]) F ⟨rfl, rfl, rfl, by decide +kernel, rfl, by decide +kernel, by decide +kernel⟩ (fun cdv A outer s H E g hr hgd => ?_), (He.glo_ok G.KX G.gn (G.t.fact 37 (f := .glo "_law_times") rfl)), F.kp, (FunD.bindsN F fun _ _ _ _ _ _ us hl => match us, hl with | [_, _], _ => rfl)⟩
  have C := ctx_fn (P := P) (w := w) (K := K) (mg := mg) (base := base) (N := [("one" : Str), ("two" : Str)]) (E := E) (pa := pa) (exF := exF) (g := g) (H := H) (k := 2) (outer := outer) hr hgd (by decide) G.sm
  exact z1 (zRet (fD C (D__law_q G) (aCC (pe_frz (bin (bMul C) (pe_Q (pe_frz (ix C (nQ 0) (pe_Q (kI))))) (pe_Q (pe_frz (ix C (nQ 1) (pe_Q (kI))))))) (aCC (pe_frz (bin (bMul C) (pe_Q (pe_frz (ix C (nQ 0) (pe_Q (kI))))) (pe_Q (pe_frz (ix C (nQ 1) (pe_Q (kI))))))) (pa_N)))))
theorem D__law_handed (G : Gx P w K mg base pa) : Def P w K mg base 3 pa exF "_law_handed" 2 f__law_handed := by
  obtain ⟨fd, F⟩ := G.t.def_ 37 (d := d37) rfl
  refine ⟨_, fd, [("pen" : Str), ("ratio" : Str)], rfl, fnG_of (N := [("pen" : Str), ("ratio" : Str), ("by" : Str)]) F ⟨rfl, rfl, rfl, by decide +kernel, rfl, by decide +kernel, by decide +kernel⟩ (fun cdv A outer s H E g hr hgd => ?_), (He.glo_ok G.KX G.gn (G.t.fact 38 (f := .glo "_law_handed") rfl)), F.kp, (FunD.bindsN F fun _ _ _ _ _ _ us hl => match us, hl with | [_, _], _ => rfl)⟩
  have C := ctx_fn (P := P) (w := w) (K := K) (mg := mg) (base := base) (N := [("pen" : Str), ("ratio" : Str), ("by" : Str)]) (E := E) (pa := pa) (exF := exF) (g := g) (H := H) (k := 2) (outer := outer) hr hgd (by decide) G.sm
  exact zC (zIf ((wA (tcmp (cEq C) (pe_Q (pe_frz (ix C (nQ 1) (pe_Q (kI))))) (pe_Q (kI))) (wA1 (tcmp (cEq C) (pe_Q (pe_frz (fD C (D__law_draw G) (aCC (nE 0) (aCC (kI) (pa_N)))))) (pe_Q (kI))))).pt) (z1 (zRet (ix C (nQ 1) (pe_Q (kI))))) (z0)) (zC (zSet C 2 (fD C (D__law_pick G) (aCC (nE 0) (aCC (pe_frz (pe_lstE (aCC (kI) (aCC (kI) (aCC (kI) (aCC (kI) (pa_N))))))) (pa_N))))) (z1 (zRet (fD C (D__law_pick G) (aCC (nE 0) (aCC (pe_frz (pe_lstE (aCC (pe_tupE (aCC (pe_frz (bin (bMul C) (pe_Q (pe_frz (ix C (nQ 1) (pe_Q (kI))))) (nQ 2))) (aCC (pe_frz (bin (bMul C) (pe_Q (pe_frz (ix C (nQ 1) (pe_Q (kI))))) (nQ 2))) (pa_N)))) (aCC (pe_frz (pe_lstE (aCC (pe_frz (bin (bMul C) (pe_Q (pe_frz (ix C (nQ 1) (pe_Q (kI))))) (nQ 2))) (aCC (pe_frz (bin (bMul C) (pe_Q (pe_frz (ix C (nQ 1) (pe_Q (kI))))) (nQ 2))) (pa_N))))) (pa_N))))) (pa_N)))))))
theorem D__law_passed (G : Gx P w K mg base pa) : Def P w K mg base 3 pa exF "_law_passed" 2 f__law_passed := by
  obtain ⟨fd, F⟩ := G.t.def_ 38 (d := d38) rfl
  refine ⟨_, fd, [("pen" : Str), ("row" : Str)], rfl, fnG_of (N := [("pen" : Str), ("row" : Str)]) F ⟨rfl, rfl, rfl, by decide +kernel, rfl, by decide +kernel, by decide +kernel⟩ (fun cdv A outer s H E g hr hgd => ?_), (He.glo_ok G.KX G.gn (G.t.fact 39 (f := .glo "_law_passed") rfl)), F.kp, (FunD.bindsN F fun _ _ _ _ _ _ us hl => match us, hl with | [_, _], _ => rfl)⟩
  have C := ctx_fn (P := P) (w := w) (K := K) (mg := mg) (base := base) (N := [("pen" : Str), ("row" : Str)]) (E := E) (pa := pa) (exF := exF) (g := g) (H := H) (k := 2) (outer := outer) hr hgd (by decide) G.sm
  exact z1 (zRet (fD C (D__law_pick G) (aCC (nE 0) (aCC (pe_frz (pe_lstE (aCC (pe_frz (fTuple (He.free_ok G.KX G.gn (G.t.fact 59 (f := .free "tuple") rfl)) (nQ 1) C)) (aCC (pe_frz (fList (He.free_ok G.KX G.gn (G.t.fact 56 (f := .free "list") rfl)) (nQ 1) C)) (pa_N))))) (pa_N)))))
theorem D__law_ratio (G : Gx P w K mg base pa) : Def P w K mg base 3 pa exF "_law_ratio" 2 f__law_ratio := by
  obtain ⟨fd, F⟩ := G.t.def_ 39 (d := d39) rfl
  refine ⟨_, fd, [("pen" : Str), ("most" : Str)], rfl, fnG_of (N := [("pen" : Str), ("most" : Str)]) F ⟨rfl, rfl, rfl, by decide +kernel, rfl, by decide +kernel, by decide +kernel⟩ (fun cdv A outer s H E g hr hgd => ?_), (He.glo_ok G.KX G.gn (G.t.fact 40 (f := .glo "_law_ratio") rfl)), F.kp, (FunD.bindsN F fun _ _ _ _ _ _ us hl => match us, hl with | [_, _], _ => rfl)⟩
  have C := ctx_fn (P := P) (w := w) (K := K) (mg := mg) (base := base) (N := [("pen" : Str), ("most" : Str)]) (E := E) (pa := pa) (exF := exF) (g := g) (H := H) (k := 2) (outer := outer) hr hgd (by decide) G.sm
  exact z1 (zRet (fD C (D__law_q G) (aCC (pe_frz (bin (bSub) (pe_Q (pe_frz (fD C (D__law_draw G) (aCC (nE 0) (aCC (pe_frz (bin (bAddA C) (pe_Q (pe_frz (bin (bMul C) (pe_Q (kI)) (nQ 1)))) (pe_Q (kI)))) (pa_N)))))) (nQ 1))) (aCC (pe_frz (fD C (D__law_pick G) (aCC (nE 0) (aCC (pe_frz (pe_lstE (aCC (kI) (aCC (kI) (aCC (kI) (aCC (kI) (pa_N))))))) (pa_N))))) (pa_N)))))
theorem D__law_sum (G : Gx P w K mg base pa) : Def P w K mg base 4 pa exF "_law_sum" 1 f__law_sum := by
  obtain ⟨fd, F⟩ := G.t.def_ 40 (d := d40) rfl
  refine ⟨_, fd, [("rows" : Str)], rfl, fnG_of (N := [("rows" : Str), ("found" : Str), ("item" : Str)]) F ⟨rfl, rfl, rfl, by decide +kernel, rfl, by decide +kernel, by decide +kernel⟩ (fun cdv A outer s H E g hr hgd => ?_), (He.glo_ok G.KX G.gn (G.t.fact 41 (f := .glo "_law_sum") rfl)), F.kp, (FunD.bindsN F fun _ _ _ _ _ _ us hl => match us, hl with | [_], _ => rfl)⟩
  have C := ctx_fn (P := P) (w := w) (K := K) (mg := mg) (base := base) (N := [("rows" : Str), ("found" : Str), ("item" : Str)]) (E := E) (pa := pa) (exF := exF) (g := g) (H := H) (k := 3) (outer := outer) hr hgd (by decide) G.sm
  exact zC (zSet C 1 (pe_R (pe_tupE (aCC (kI) (aCC (kI) (pa_N)))))) (zC (zFor C (passes_of rfl) (.nm 2) (it_seqE C.K (nE 0)) (gN 2) (z1 (zF [1] (zSet C 1 (fD C (D__law_plus G) (aCC (nE 1) (aCC (nE 2) (pa_N)))))))) (z1 (zRetO 1)))
theorem FL_0 (G : Gx P w K mg base pa) : FnL P w K mg base 12 pa exF (lamL.getD 0 default).1 (lamL.getD 0 default).2.1 (lamL.getD 0 default).2.2.1 (lamL.getD 0 default).2.2.2 (lamR [("bad" : Str), ("wrong" : Str), ("far" : Str)] L_0) := by
  refine lam_fn (k := 11) (N := [("bad" : Str), ("wrong" : Str), ("far" : Str)]) (lamN_by (by decide +kernel)) (fun cl pm cv ctv => rfl) (fun A outer s H E fa c' g hr hgd => ?_)
  have C := ctx_lam (P := P) (w := w) (K := K) (mg := mg) (base := base) (N := [("bad" : Str), ("wrong" : Str), ("far" : Str)]) (E := E) (pa := pa.am []) (exF := exF) (g := g) (H := H) (k := 11) (outer := outer) hr hgd (by decide) G.sm
  replace G := G.am []
  exact fD C (D_power_sums G) (aCC (nE 0) (aCC (nE 1) (aCC (nE 2) (pa_N))))
theorem FL_1 (G : Gx P w K mg base pa) : FnL P w K mg base 12 pa exF (lamL.getD 1 default).1 (lamL.getD 1 default).2.1 (lamL.getD 1 default).2.2.1 (lamL.getD 1 default).2.2.2 (lamR [("wrong" : Str), ("far" : Str)] L_1) := by
  refine lam_fn (k := 11) (N := [("wrong" : Str), ("far" : Str)]) (lamN_by (by decide +kernel)) (fun cl pm cv ctv => rfl) (fun A outer s H E fa c' g hr hgd => ?_)
  have C := ctx_lam (P := P) (w := w) (K := K) (mg := mg) (base := base) (N := [("wrong" : Str), ("far" : Str)]) (E := E) (pa := pa.am []) (exF := exF) (g := g) (H := H) (k := 11) (outer := outer) hr hgd (by decide) G.sm
  replace G := G.am []
  exact fD C (D_power_sums G) (aCC (pe_tupE (aCC (kI) (pa_N))) (aCC (nE 0) (aCC (nE 1) (pa_N))))
theorem FL_2 (G : Gx P w K mg base pa) : FnL P w K mg base 12 pa exF (lamL.getD 2 default).1 (lamL.getD 2 default).2.1 (lamL.getD 2 default).2.2.1 (lamL.getD 2 default).2.2.2 (lamR [("far" : Str)] L_2) := by
  refine lam_fn (k := 11) (N := [("far" : Str)]) (lamN_by (by decide +kernel)) (fun cl pm cv ctv => rfl) (fun A outer s H E fa c' g hr hgd => ?_)
  have C := ctx_lam (P := P) (w := w) (K := K) (mg := mg) (base := base) (N := [("far" : Str)]) (E := E) (pa := pa.am []) (exF := exF) (g := g) (H := H) (k := 11) (outer := outer) hr hgd (by decide) G.sm
  replace G := G.am []
  exact fD C (D_power_sums G) (aCC (pe_tupE (aCC (kI) (pa_N))) (aCC (pe_tupE (aCC (kI) (pa_N))) (aCC (nE 0) (pa_N))))
theorem FL_3 (G : Gx P w K mg base pa) : FnL P w K mg base 12 pa exF (lamL.getD 3 default).1 (lamL.getD 3 default).2.1 (lamL.getD 3 default).2.2.1 (lamL.getD 3 default).2.2.2 (lamR [("long" : Str), ("low" : Str), ("start" : Str)] L_3) := by
  refine lam_fn (k := 11) (N := [("long" : Str), ("low" : Str), ("start" : Str)]) (lamN_by (by decide +kernel)) (fun cl pm cv ctv => rfl) (fun A outer s H E fa c' g hr hgd => ?_)
  have C := ctx_lam (P := P) (w := w) (K := K) (mg := mg) (base := base) (N := [("long" : Str), ("low" : Str), ("start" : Str)]) (E := E) (pa := pa.am []) (exF := exF) (g := g) (H := H) (k := 11) (outer := outer) hr hgd (by decide) G.sm
  replace G := G.am []
  exact fD C (D_hankel G) (aCC (nE 0) (aCC (nE 1) (aCC (nE 2) (pa_N))))
theorem FL_4 (G : Gx P w K mg base pa) : FnL P w K mg base 12 pa exF (lamL.getD 4 default).1 (lamL.getD 4 default).2.1 (lamL.getD 4 default).2.2.1 (lamL.getD 4 default).2.2.2 (lamR [("low" : Str), ("start" : Str)] L_4) := by
  refine lam_fn (k := 11) (N := [("low" : Str), ("start" : Str)]) (lamN_by (by decide +kernel)) (fun cl pm cv ctv => rfl) (fun A outer s H E fa c' g hr hgd => ?_)
  have C := ctx_lam (P := P) (w := w) (K := K) (mg := mg) (base := base) (N := [("low" : Str), ("start" : Str)]) (E := E) (pa := pa.am []) (exF := exF) (g := g) (H := H) (k := 11) (outer := outer) hr hgd (by decide) G.sm
  replace G := G.am []
  exact fD C (D_hankel G) (aCC (pe_tupE (aCC (kI) (aCC (kI) (aCC (kI) (pa_N))))) (aCC (nE 0) (aCC (nE 1) (pa_N))))
theorem FL_5 (G : Gx P w K mg base pa) : FnL P w K mg base 12 pa exF (lamL.getD 5 default).1 (lamL.getD 5 default).2.1 (lamL.getD 5 default).2.2.1 (lamL.getD 5 default).2.2.2 (lamR [("start" : Str)] L_5) := by
  refine lam_fn (k := 11) (N := [("start" : Str)]) (lamN_by (by decide +kernel)) (fun cl pm cv ctv => rfl) (fun A outer s H E fa c' g hr hgd => ?_)
  have C := ctx_lam (P := P) (w := w) (K := K) (mg := mg) (base := base) (N := [("start" : Str)]) (E := E) (pa := pa.am []) (exF := exF) (g := g) (H := H) (k := 11) (outer := outer) hr hgd (by decide) G.sm
  replace G := G.am []
  exact fD C (D_hankel G) (aCC (pe_tupE (aCC (kI) (aCC (kI) (aCC (kI) (pa_N))))) (aCC (kI) (aCC (nE 0) (pa_N))))
theorem FL_6 (G : Gx P w K mg base pa) : FnL P w K mg base 12 pa exF (lamL.getD 6 default).1 (lamL.getD 6 default).2.1 (lamL.getD 6 default).2.2.1 (lamL.getD 6 default).2.2.2 (lamR ([] : List Str) L_6) := by
  refine lam_fn (k := 11) (N := ([] : List Str)) (lamN_by (by decide +kernel)) (fun cl pm cv ctv => rfl) (fun A outer s H E fa c' g hr hgd => ?_)
  have C := ctx_lam (P := P) (w := w) (K := K) (mg := mg) (base := base) (N := ([] : List Str)) (E := E) (pa := pa.am []) (exF := exF) (g := g) (H := H) (k := 11) (outer := outer) hr hgd (by decide) G.sm
  replace G := G.am []
  exact fD C (D_hankel G) (aCC (pe_tupE (aCC (kI) (aCC (kI) (aCC (kI) (pa_N))))) (aCC (kI) (aCC (kI) (pa_N))))
theorem lam_all (G : Gx P w K mg base pa) (i : Nat) (q : Str) (ps : Arguments) (b : Expr) (sc : Scope) (hi : pa.lams[i]? = some (q, ps, b, sc)) : FnL P w K mg base 12 pa exF q ps b sc (lamT i) := by
  rw [G.lams] at hi
  match i, hi with
  | 0, hi => cases hi; exact FL_0 G
  | 1, hi => cases hi; exact FL_1 G
  | 2, hi => cases hi; exact FL_2 G
  | 3, hi => cases hi; exact FL_3 G
  | 4, hi => cases hi; exact FL_4 G
  | 5, hi => cases hi; exact FL_5 G
  | 6, hi => cases hi; exact FL_6 G
  | n + 7, hi => cases hi
theorem D__law_fault (G : Gx P w K mg base pa) : DefA P w K mg base 13 pa exF "_law_fault" 1 f__law_fault := by
  obtain ⟨fd, F⟩ := G.t.def_ 41 (d := d41) rfl
  refine ⟨_, fd, [("work" : Str)], rfl, fun m => fnG_of (N := [("work" : Str), ("fault" : Str)]) F ⟨rfl, rfl, rfl, by decide +kernel, rfl, by decide +kernel, by decide +kernel⟩ (fun cdv A outer s H E g hr hgd => ?_), (He.glo_ok G.KX G.gn (G.t.fact 42 (f := .glo "_law_fault") rfl)), F.kp, (FunD.bindsN F fun _ _ _ _ _ _ us hl => match us, hl with | [_], _ => rfl)⟩
  have C := ctx_fn (P := P) (w := w) (K := K) (mg := mg) (base := base) (N := [("work" : Str), ("fault" : Str)]) (E := E) (pa := pa.am m) (exF := exF) (g := g) (H := H) (k := 12) (outer := outer) hr hgd (by decide) G.sm
  exact zC (zTry C 1 (cl := [((.ref (He.ga K "BadLot")), (fun i => decide (i = 1)), sRet (asR (tupE (aC (kk (.str ("lot" : Str))) (aC (xfE 1 1 [("lot" : Str)] "lot") (aN)))))), ((.ref (He.ga K "BadNumber")), (fun i => decide (i = 0)), sRet (asR (tupE (aC (kk (.str ("number" : Str))) (aC (xfE 1 0 [("what" : Str), ("number" : Str)] "what") (aC (xfE 1 0 [("what" : Str), ("number" : Str)] "number") (aN))))))), ((.ref (He.ga K "BadRow")), (fun i => decide (i = 2)), sRet (asR (tupE (aC (kk (.str ("row" : Str))) (aC (xfE 1 2 [("row" : Str)] "row") (aN)))))), ((.ref (He.ga K "BadTable")), (fun i => decide (i = 3)), sRet (asR (tupE (aC (kk (.str ("table" : Str))) (aC (xfE 1 3 [("table" : Str)] "table") (aN)))))), ((.ref (He.ga K "TooMany")), (fun i => decide (i = 5)), sRet (asR (tupE (aC (kk (.str ("many" : Str))) (aC (xfE 1 5 [("what" : Str), ("many" : Str), ("limit" : Str)] "what") (aC (xfE 1 5 [("what" : Str), ("many" : Str), ("limit" : Str)] "many") (aC (xfE 1 5 [("what" : Str), ("many" : Str), ("limit" : Str)] "limit") (aN)))))))), ((.ref (He.ga K "Unlike")), (fun i => decide (i = 4)), sRet (asR (tupE (aC (kk (.str ("unlike" : Str))) (aC (xfE 1 4 [("what" : Str)] "what") (aN))))))]) (fun c hc => by simp only [List.mem_cons, List.not_mem_nil, or_false] at hc; rcases hc with rfl | rfl | rfl | rfl | rfl | rfl <;> first | exact (G.am m).exm 1 | exact (G.am m).exm 0 | exact (G.am m).exm 2 | exact (G.am m).exm 3 | exact (G.am m).exm 5 | exact (G.am m).exm 4) (fun W pn xe C' => z1 (zExp (pe_work (lb := lamT) (k := 12) C'.K rfl (Or.inl rfl) (by decide) (by decide) (fun i q ps b sc hi => lam_all (G.am m) i q ps b sc hi) (C'.hr.mono (by decide)) C'.gd C'.tk))) (.cons ⟨rfl, by decide, Or.inl (He.glo_ok G.KX G.gn (G.t.fact 2 (f := .glo "BadLot") rfl))⟩ (fun a oe cls d pn hz hf => z1 (zRet (pe_R (pe_tupE (aCC (kS) (aCC (pe_xfE (cj := 1) (names := [("lot" : Str)]) (sl := 1) ((G.am m).exc 1).X (((G.am m).exc 1).no _ (by decide)) hz hf ((G.am m).exC 1) rfl rfl (Or.inl rfl) (by decide) (by decide)) (pa_N))))))) (.cons ⟨rfl, by decide, Or.inl (He.glo_ok G.KX G.gn (G.t.fact 1 (f := .glo "BadNumber") rfl))⟩ (fun a oe cls d pn hz hf => z1 (zRet (pe_R (pe_tupE (aCC (kS) (aCC (pe_xfE (cj := 0) (names := [("what" : Str), ("number" : Str)]) (sl := 1) ((G.am m).exc 0).X (((G.am m).exc 0).no _ (by decide)) hz hf ((G.am m).exC 0) rfl rfl (Or.inl rfl) (by decide) (by decide)) (aCC (pe_xfE (cj := 0) (names := [("what" : Str), ("number" : Str)]) (sl := 1) ((G.am m).exc 0).X (((G.am m).exc 0).no _ (by decide)) hz hf ((G.am m).exC 0) rfl rfl (Or.inl rfl) (by decide) (by decide)) (pa_N)))))))) (.cons ⟨rfl, by decide, Or.inl (He.glo_ok G.KX G.gn (G.t.fact 3 (f := .glo "BadRow") rfl))⟩ (fun a oe cls d pn hz hf => z1 (zRet (pe_R (pe_tupE (aCC (kS) (aCC (pe_xfE (cj := 2) (names := [("row" : Str)]) (sl := 1) ((G.am m).exc 2).X (((G.am m).exc 2).no _ (by decide)) hz hf ((G.am m).exC 2) rfl rfl (Or.inl rfl) (by decide) (by decide)) (pa_N))))))) (.cons ⟨rfl, by decide, Or.inl (He.glo_ok G.KX G.gn (G.t.fact 4 (f := .glo "BadTable") rfl))⟩ (fun a oe cls d pn hz hf => z1 (zRet (pe_R (pe_tupE (aCC (kS) (aCC (pe_xfE (cj := 3) (names := [("table" : Str)]) (sl := 1) ((G.am m).exc 3).X (((G.am m).exc 3).no _ (by decide)) hz hf ((G.am m).exC 3) rfl rfl (Or.inl rfl) (by decide) (by decide)) (pa_N))))))) (.cons ⟨rfl, by decide, Or.inl (He.glo_ok G.KX G.gn (G.t.fact 6 (f := .glo "TooMany") rfl))⟩ (fun a oe cls d pn hz hf => z1 (zRet (pe_R (pe_tupE (aCC (kS) (aCC (pe_xfE (cj := 5) (names := [("what" : Str), ("many" : Str), ("limit" : Str)]) (sl := 1) ((G.am m).exc 5).X (((G.am m).exc 5).no _ (by decide)) hz hf ((G.am m).exC 5) rfl rfl (Or.inl rfl) (by decide) (by decide)) (aCC (pe_xfE (cj := 5) (names := [("what" : Str), ("many" : Str), ("limit" : Str)]) (sl := 1) ((G.am m).exc 5).X (((G.am m).exc 5).no _ (by decide)) hz hf ((G.am m).exC 5) rfl rfl (Or.inl rfl) (by decide) (by decide)) (aCC (pe_xfE (cj := 5) (names := [("what" : Str), ("many" : Str), ("limit" : Str)]) (sl := 1) ((G.am m).exc 5).X (((G.am m).exc 5).no _ (by decide)) hz hf ((G.am m).exC 5) rfl rfl (Or.inl rfl) (by decide) (by decide)) (pa_N))))))))) (.cons ⟨rfl, by decide, Or.inl (He.glo_ok G.KX G.gn (G.t.fact 5 (f := .glo "Unlike") rfl))⟩ (fun a oe cls d pn hz hf => z1 (zRet (pe_R (pe_tupE (aCC (kS) (aCC (pe_xfE (cj := 4) (names := [("what" : Str)]) (sl := 1) ((G.am m).exc 4).X (((G.am m).exc 4).no _ (by decide)) hz hf ((G.am m).exC 4) rfl rfl (Or.inl rfl) (by decide) (by decide)) (pa_N))))))) (.nil)))))))) (z1 (zRet (pe_R (kN))))
theorem D__law_are_due (G : Gx P w K mg base pa) : DefA P w K mg base 14 pa exF "_law_are_due" 1 f__law_are_due := by
  obtain ⟨fd, F⟩ := G.t.def_ 42 (d := d42) rfl
  refine ⟨_, fd, [("tries" : Str)], rfl, fun m => fnG_of (N := [("tries" : Str), ("work" : Str), ("due" : Str)]) F ⟨rfl, rfl, rfl, by decide +kernel, rfl, by decide +kernel, by decide +kernel⟩ (fun cdv A outer s H E g hr hgd => ?_), (He.glo_ok G.KX G.gn (G.t.fact 43 (f := .glo "_law_are_due") rfl)), F.kp, (FunD.bindsN F fun _ _ _ _ _ _ us hl => match us, hl with | [_], _ => rfl)⟩
  have C := ctx_fn (P := P) (w := w) (K := K) (mg := mg) (base := base) (N := [("tries" : Str), ("work" : Str), ("due" : Str)]) (E := E) (pa := pa.am m) (exF := exF) (g := g) (H := H) (k := 13) (outer := outer) hr hgd (by decide) G.sm
  exact z1 (zRet (fAll (He.free_ok G.KX G.gn (G.t.fact 51 (f := .free "all") rfl)) (pe_Q (pe_frz (lcR C (T := (.tp [1, 2])) (own := [(("work" : Str), 1), (("due" : Str), 2)]) (it_seqQ C.K (nQ 0)) (by rfl) (by decide) (fun s H env A fp C' => ⟨(gT2 1 2), pe_frz (cmp (cEq C') (pe_Q (pe_frz (fRepr (He.free_ok G.KX G.gn (G.t.fact 58 (f := .free "repr") rfl)) (pe_Q (pe_frz (fD C' ((D__law_fault G).at m) (aCC (nE 1) (pa_N))))) C'))) (pe_Q (pe_frz (fRepr (He.free_ok G.KX G.gn (G.t.fact 58 (f := .free "repr") rfl)) (nQ 2) C'))))⟩)))) C))
theorem D__law_given_row (G : Gx P w K mg base pa) : Def P w K mg base 4 pa exF "_law_given_row" 2 f__law_given_row := by
  obtain ⟨fd, F⟩ := G.t.def_ 43 (d := d43) rfl
  refine ⟨_, fd, [("pen" : Str), ("row" : Str)], rfl, fnG_of (N := [("pen" : Str), ("row" : Str), ("item" : Str)]) F ⟨rfl, rfl, rfl, by decide +kernel, rfl, by decide +kernel, by decide +kernel⟩ (fun cdv A outer s H E g hr hgd => ?_), (He.glo_ok G.KX G.gn (G.t.fact 44 (f := .glo "_law_given_row") rfl)), F.kp, (FunD.bindsN F fun _ _ _ _ _ _ us hl => match us, hl with | [_, _], _ => rfl)⟩
  have C := ctx_fn (P := P) (w := w) (K := K) (mg := mg) (base := base) (N := [("pen" : Str), ("row" : Str), ("item" : Str)]) (E := E) (pa := pa) (exF := exF) (g := g) (H := H) (k := 3) (outer := outer) hr hgd (by decide) G.sm
  exact z1 (zRet (fD C (D__law_passed G) (aCC (nE 0) (aCC (pe_frz (lcR C (T := (.nm 2)) (own := [(("item" : Str), 2)]) (it_seqQ C.K (nQ 1)) (by rfl) (by decide) (fun s H env A fp C' => ⟨(gN 2), pe_frz (fD C' (D__law_handed G) (aCC (nE 0) (aCC (nE 2) (pa_N))))⟩))) (pa_N)))))
theorem D__law_power_row (G : Gx P w K mg base pa) : Def P w K mg base 5 pa exF "_law_power_row" 3 f__law_power_row := by
  obtain ⟨fd, F⟩ := G.t.def_ 44 (d := d44) rfl
  refine ⟨_, fd, [("points" : Str), ("weights" : Str), ("many" : Str)], rfl, fnG_of (N := [("points" : Str), ("weights" : Str), ("many" : Str), ("found" : Str), ("here" : Str), ("lap" : Str), ("a" : Str), ("b" : Str)]) F ⟨rfl, rfl, rfl, by decide +kernel, rfl, by decide +kernel, by decide +kernel⟩ (fun cdv A outer s H E g hr hgd => ?_), (He.glo_ok G.KX G.gn (G.t.fact 45 (f := .glo "_law_power_row") rfl)), F.kp, (FunD.bindsN F fun _ _ _ _ _ _ us hl => match us, hl with | [_, _, _], _ => rfl)⟩
  have C := ctx_fn (P := P) (w := w) (K := K) (mg := mg) (base := base) (N := [("points" : Str), ("weights" : Str), ("many" : Str), ("found" : Str), ("here" : Str), ("lap" : Str), ("a" : Str), ("b" : Str)]) (E := E) (pa := pa) (exF := exF) (g := g) (H := H) (k := 4) (outer := outer) hr hgd (by decide) G.sm
  exact zC (zParR C 3 4 (pe_lstE (pa_N)) (fList (He.free_ok G.KX G.gn (G.t.fact 56 (f := .free "list") rfl)) (nQ 1) C)) (zC (zFor C (passes_of rfl) (.nm 5) (it_rng1 rfl (He.free_ok G.KX G.gn (G.t.fact 57 (f := .free "range") rfl)) rfl (nQ 2)) (gN 5) (zC (zF [4] (zApp C 3 (pe_frz (fD C (D__law_sum G) (aCC (nE 4) (pa_N)))))) (z1 (zLcR C 4 (T := (.tp [6, 7])) (own := [(("a" : Str), 6), (("b" : Str), 7)]) (it_zipAQ C.K rfl (He.free_ok G.KX G.gn (G.t.fact 60 (f := .free "zip") rfl)) rfl rfl (nQ 4) (nQ 0)) (by rfl) (by decide) (fun s H env A fp C' => ⟨(gT2 6 7), pe_frz (fD C' (D__law_times G) (aCC (nE 6) (aCC (nE 7) (pa_N))))⟩))))) (z1 (zRet (fTuple (He.free_ok G.KX G.gn (G.t.fact 59 (f := .free "tuple") rfl)) (nQ 3) C))))
theorem D__law_square_of (G : Gx P w K mg base pa) : Def P w K mg base 1 pa exF "_law_square_of" 3 f__law_square_of := by
  obtain ⟨fd, F⟩ := G.t.def_ 45 (d := d45) rfl
  refine ⟨_, fd, [("row" : Str), ("size" : Str), ("start" : Str)], rfl, fnG_of (N := [("row" : Str), ("size" : Str), ("start" : Str), ("i" : Str), ("j" : Str)]) F ⟨rfl, rfl, rfl, by decide +kernel, rfl, by decide +kernel, by decide +kernel⟩ (fun cdv A outer s H E g hr hgd => ?_), (He.glo_ok G.KX G.gn (G.t.fact 46 (f := .glo "_law_square_of") rfl)), F.kp, (FunD.bindsN F fun _ _ _ _ _ _ us hl => match us, hl with | [_, _, _], _ => rfl)⟩
  have C := ctx_fn (P := P) (w := w) (K := K) (mg := mg) (base := base) (N := [("row" : Str), ("size" : Str), ("start" : Str), ("i" : Str), ("j" : Str)]) (E := E) (pa := pa) (exF := exF) (g := g) (H := H) (k := 0) (outer := outer) hr hgd (by decide) G.sm
  exact z1 (zRet (fTuple (He.free_ok G.KX G.gn (G.t.fact 59 (f := .free "tuple") rfl)) (pe_Q (pe_frz (lcR C (T := (.nm 3)) (own := [(("i" : Str), 3)]) (it_rng1 rfl (He.free_ok G.KX G.gn (G.t.fact 57 (f := .free "range") rfl)) rfl (nQ 1)) (by rfl) (by decide) (fun s H env A fp C' => ⟨(gN 3), pe_frz (fTuple (He.free_ok G.KX G.gn (G.t.fact 59 (f := .free "tuple") rfl)) (pe_Q (pe_frz (lcR C' (T := (.nm 4)) (own := [(("j" : Str), 4)]) (it_rng1 rfl (He.free_ok G.KX G.gn (G.t.fact 57 (f := .free "range") rfl)) rfl (nQ 1)) (by rfl) (by decide) (fun s H env A fp C' => ⟨(gN 4), pe_frz (ix C' (nQ 0) (pe_Q (pe_frz (bin (bAddA C') (pe_Q (pe_frz (bin (bAddA C') (nQ 3) (nQ 4)))) (nQ 2)))))⟩)))) C')⟩)))) C))
theorem D__law_case (G : Gx P w K mg base pa) : Def P w K mg base 12 pa exF "_law_case" 1 f__law_case := by
  obtain ⟨fd, F⟩ := G.t.def_ 46 (d := d46) rfl
  refine ⟨_, fd, [("pen" : Str)], rfl, fnG_of (N := [("pen" : Str), ("few" : Str), ("points" : Str), ("weights" : Str), ("many" : Str), ("row" : Str), ("start" : Str), ("sizes" : Str), ("size" : Str), ("table" : Str), ("led" : Str), ("powers" : Str), ("by" : Str), ("far" : Str), ("here" : Str), ("k" : Str), ("cut" : Str), ("one" : Str), ("two" : Str), ("a" : Str), ("b" : Str), ("item" : Str)]) F ⟨rfl, rfl, rfl, by decide +kernel, rfl, by decide +kernel, by decide +kernel⟩ (fun cdv A outer s H E g hr hgd => ?_), (He.glo_ok G.KX G.gn (G.t.fact 47 (f := .glo "_law_case") rfl)), F.kp, (FunD.bindsN F fun _ _ _ _ _ _ us hl => match us, hl with | [_], _ => rfl)⟩
  have C := ctx_fn (P := P) (w := w) (K := K) (mg := mg) (base := base) (N := [("pen" : Str), ("few" : Str), ("points" : Str), ("weights" : Str), ("many" : Str), ("row" : Str), ("start" : Str), ("sizes" : Str), ("size" : Str), ("table" : Str), ("led" : Str), ("powers" : Str), ("by" : Str), ("far" : Str), ("here" : Str), ("k" : Str), ("cut" : Str), ("one" : Str), ("two" : Str), ("a" : Str), ("b" : Str), ("item" : Str)]) (E := E) (pa := pa) (exF := exF) (g := g) (H := H) (k := 11) (outer := outer) hr hgd (by decide) G.sm
  exact zC (zSet C 1 (bin (bAddA C) (pe_Q (kI)) (pe_Q (pe_frz (fD C (D__law_draw G) (aCC (nE 0) (aCC (kI) (pa_N)))))))) (zC (zPar C 2 3 (pe_frz (fTuple (He.free_ok G.KX G.gn (G.t.fact 59 (f := .free "tuple") rfl)) (pe_Q (pe_frz (lcR C (T := (.nm 15)) (own := [(("k" : Str), 15)]) (it_rng1 rfl (He.free_ok G.KX G.gn (G.t.fact 57 (f := .free "range") rfl)) rfl (nQ 1)) (by rfl) (by decide) (fun s H env A fp C' => ⟨(gN 15), pe_frz (fD C' (D__law_ratio G) (aCC (nE 0) (aCC (kI) (pa_N))))⟩)))) C)) (pe_frz (fTuple (He.free_ok G.KX G.gn (G.t.fact 59 (f := .free "tuple") rfl)) (pe_Q (pe_frz (lcR C (T := (.nm 15)) (own := [(("k" : Str), 15)]) (it_rng1 rfl (He.free_ok G.KX G.gn (G.t.fact 57 (f := .free "range") rfl)) rfl (nQ 1)) (by rfl) (by decide) (fun s H env A fp C' => ⟨(gN 15), pe_frz (fD C' (D__law_ratio G) (aCC (nE 0) (aCC (kI) (pa_N))))⟩)))) C))) (zC (zSet C 4 (bin (bAddA C) (pe_Q (kI)) (pe_Q (pe_frz (fD C (D__law_draw G) (aCC (nE 0) (aCC (kI) (pa_N)))))))) (zC (zSet C 5 (fD C (D_power_sums G) (aCC (pe_frz (fD C (D__law_given_row G) (aCC (nE 0) (aCC (nE 2) (pa_N))))) (aCC (pe_frz (fD C (D__law_given_row G) (aCC (nE 0) (aCC (nE 3) (pa_N))))) (aCC (nE 4) (pa_N)))))) (zC (zIf (tcmp (cNe C) (pe_Q (pe_frz (fRepr (He.free_ok G.KX G.gn (G.t.fact 58 (f := .free "repr") rfl)) (nQ 5) C))) (pe_Q (pe_frz (fRepr (He.free_ok G.KX G.gn (G.t.fact 58 (f := .free "repr") rfl)) (pe_Q (pe_frz (fD C (D__law_power_row G) (aCC (nE 2) (aCC (nE 3) (aCC (nE 4) (pa_N))))))) C)))) (z1 (zRet (pe_R (kB)))) (z0)) (zC (zSet C 6 (fD C (D__law_draw G) (aCC (nE 0) (aCC (kI) (pa_N))))) (zC (zF [8] (zLcIf C 7 (T := (.nm 8)) (own := [(("size" : Str), 8)]) (it_rng2 rfl (He.free_ok G.KX G.gn (G.t.fact 57 (f := .free "range") rfl)) rfl rfl (pe_Q (kI)) (pe_Q (kI))) (by rfl) (by decide) (fun s H env A fp C' => ⟨(gN 8), tcmp (cLe) (pe_Q (pe_frz (bin (bAddA C') (pe_Q (pe_frz (bin (bSub) (pe_Q (pe_frz (bin (bMul C') (pe_Q (kI)) (nQ 8)))) (pe_Q (kI))))) (nQ 6)))) (nQ 4), nE 8⟩))) (zC (zIf (tcmp (cNe C) (nQ 7) (pe_Q (pe_frz (pe_lstE (pa_N))))) (zC (zF [7] (zSet C 8 (fD C (D__law_pick G) (aCC (nE 0) (aCC (nE 7) (pa_N)))))) (zC (zF [5, 6, 8] (zSet C 9 (fD C (D_hankel G) (aCC (pe_frz (fD C (D__law_given_row G) (aCC (nE 0) (aCC (nE 5) (pa_N))))) (aCC (nE 8) (aCC (nE 6) (pa_N))))))) (zC (zF [5, 6, 8] (zIf (tcmp (cNe C) (pe_Q (pe_frz (fRepr (He.free_ok G.KX G.gn (G.t.fact 58 (f := .free "repr") rfl)) (nQ 9) C))) (pe_Q (pe_frz (fRepr (He.free_ok G.KX G.gn (G.t.fact 58 (f := .free "repr") rfl)) (pe_Q (pe_frz (fD C (D__law_square_of G) (aCC (nE 5) (aCC (nE 8) (aCC (nE 6) (pa_N))))))) C)))) (z1 (zRet (pe_R (kB)))) (z0))) (zC (zSet C 10 (ite (tcmp (cEq C) (nQ 6) (pe_Q (kI))) (fTuple (He.free_ok G.KX G.gn (G.t.fact 59 (f := .free "tuple") rfl)) (pe_Q (pe_frz (lcR C (T := (.tp [19, 20])) (own := [(("a" : Str), 19), (("b" : Str), 20)]) (it_zipAQ C.K rfl (He.free_ok G.KX G.gn (G.t.fact 60 (f := .free "zip") rfl)) rfl rfl (nQ 3) (nQ 2)) (by rfl) (by decide) (fun s H env A fp C' => ⟨(gT2 19 20), pe_frz (fD C' (D__law_times G) (aCC (nE 19) (aCC (nE 20) (pa_N))))⟩)))) C) (pe_R (nE 3)))) (zC (zF [8] (zSet C 11 (fD C (D_power_table G) (aCC (nE 2) (aCC (nE 8) (pa_N)))))) (z1 (zF [11] (zIf (tcmp (cNe C) (pe_Q (pe_frz (fD C (D_product G) (aCC (pe_frz (fD C (D_product G) (aCC (pe_frz (fD C (D_turned G) (aCC (nE 11) (pa_N)))) (aCC (pe_frz (fD C (D_diagonal_table G) (aCC (nE 10) (pa_N)))) (pa_N))))) (aCC (nE 11) (pa_N)))))) (nQ 9)) (z1 (zRet (pe_R (kB)))) (z0))))))))) (z0)) (zC (zSet C 12 (fD C (D__law_pick G) (aCC (nE 0) (aCC (pe_frz (pe_lstE (aCC (pe_tupE (aCC (kI) (aCC (kI) (pa_N)))) (aCC (pe_tupE (aCC (pe_frz (uNeg (pe_Q (kI)))) (aCC (kI) (pa_N)))) (aCC (pe_tupE (aCC (kI) (aCC (kI) (pa_N)))) (pa_N)))))) (pa_N))))) (zC (zF [12] (zSet C 13 (fD C (D_power_sums G) (aCC (pe_frz (fTuple (He.free_ok G.KX G.gn (G.t.fact 59 (f := .free "tuple") rfl)) (pe_Q (pe_frz (lcR C (T := (.nm 21)) (own := [(("item" : Str), 21)]) (it_seqQ C.K (nQ 2)) (by rfl) (by decide) (fun s H env A fp C' => ⟨(gN 21), pe_frz (fD C' (D__law_times G) (aCC (nE 12) (aCC (nE 21) (pa_N))))⟩)))) C)) (aCC (nE 3) (aCC (nE 4) (pa_N))))))) (zC (zSet C 14 (pe_R (pe_tupE (aCC (kI) (aCC (kI) (pa_N)))))) (zC (zFor C (passes_of rfl) (.nm 15) (it_rng1 rfl (He.free_ok G.KX G.gn (G.t.fact 57 (f := .free "range") rfl)) rfl (nQ 4)) (gN 15) (zC (zF [14] (zIf (tcmp (cNe C) (pe_Q (pe_frz (ix C (nQ 13) (nQ 15)))) (pe_Q (pe_frz (fD C (D__law_times G) (aCC (nE 14) (aCC (pe_frz (ix C (nQ 5) (nQ 15))) (pa_N))))))) (z1 (zRet (pe_R (kB)))) (z0))) (z1 (zF [12, 14] (zSet C 14 (fD C (D__law_times G) (aCC (nE 14) (aCC (nE 12) (pa_N))))))))) (zC (zSet C 16 (bin (bAddA C) (pe_Q (kI)) (pe_Q (pe_frz (fD C (D__law_draw G) (aCC (nE 0) (aCC (nE 1) (pa_N)))))))) (zC (zIf (tcmp (cLt) (nQ 16) (nQ 1)) (zC (zPar C 17 18 (pe_frz (fD C (D_power_sums G) (aCC (pe_frz (eSl C (nQ 2) (poN) (poS (nQ 16)))) (aCC (pe_frz (eSl C (nQ 3) (poN) (poS (nQ 16)))) (aCC (nE 4) (pa_N)))))) (pe_frz (fD C (D_power_sums G) (aCC (pe_frz (eSl C (nQ 2) (poS (nQ 16)) (poN))) (aCC (pe_frz (eSl C (nQ 3) (poS (nQ 16)) (poN))) (aCC (nE 4) (pa_N))))))) (z1 (zRet (cmp (cEq C) (pe_Q (pe_frz (fTuple (He.free_ok G.KX G.gn (G.t.fact 59 (f := .free "tuple") rfl)) (pe_Q (pe_frz (lcR C (T := (.tp [19, 20])) (own := [(("a" : Str), 19), (("b" : Str), 20)]) (it_zipAQ C.K rfl (He.free_ok G.KX G.gn (G.t.fact 60 (f := .free "zip") rfl)) rfl rfl (nQ 17) (nQ 18)) (by rfl) (by decide) (fun s H env A fp C' => ⟨(gT2 19 20), pe_frz (fD C' (D__law_plus G) (aCC (nE 19) (aCC (nE 20) (pa_N))))⟩)))) C))) (nQ 5))))) (z0)) (z1 (zRet (pe_R (kB)))))))))))))))))
-- LAW level 15
theorem law_walk (G : Gx P w K mg base pa) {ts : List Addr} {c : Addr} {fd : FuncData} (F : FunD K d47.name d47.qual d47.params d47.body d47.scope (d47.dvs K) (d47.kws K) (He.fAd K d47.at_) fd) (hts : ∀ q ∈ pa.tb, q.1 ∈ ts) (hc : He.codeOf K ("law", none) = c) (P0 : Addr) (TB : LamX.TabB base mg c P0) (htb : pa.tb = [(P0, ("law.<locals>.<lambda>" : Str))]) (n : Nat)
    (hsem : ∀ ns : List Int, ns.length ≤ n → (∀ z ∈ ns, Builtin.Int.intBits z ≤ 1048576) → ∃ st, runF N_law S_law [.scr (ns.map D.int)] [] = .ok (.val (.bl true)) st) :
    FnG P w K mg base (L2.CX P w) 15 (He.fAd K ("law", none)) fd [("script" : Str)] (spL n ts K) := by
  refine law_fn (k := 14) (exF := exF) (pa := pa) (N := N_law) (ss := S_law) F ⟨rfl, rfl, rfl, by decide +kernel, rfl, by decide +kernel, by decide +kernel⟩ hts hsem (fun A outer s H E g hr hgd => ?_)
  have C := ctx_fn (P := P) (w := w) (K := K) (mg := mg) (base := base) (N := N_law) (E := E) (pa := pa.made (cellsFrom (s.heap.objs.size + 1) (defScope (top 60)).names [])) (exF := exF) (g := g) (H := H) (k := 14) (outer := outer) hr hgd (by decide) G.sm
  replace G := G.made (cellsFrom (s.heap.objs.size + 1) (defScope (top 60)).names [])
  have capL_ok : ∀ q ∈ capL, N_law[q.2]? = some q.1 ∧ (defScope (top 60)).names.lookup q.1 = some .cell := by decide +kernel
  have MK : Mkr ⟨K, pa.made (cellsFrom (s.heap.objs.size + 1) (defScope (top 60)).names []), exF, g, H, fun cls dx _ H' => E cls dx H', none⟩ (cxOf (L2.CX P w) P w K mg base N_law "law" (defScope (top 60)) (He.fAd K ("law", none)) (.ref (He.codeOf K ("law", none))) A outer s H E) c P0 :=
    ⟨TB, by rw [← hc]; rfl, by show _ ∈ pa.tb; rw [htb]; exact List.mem_singleton.mpr rfl, fun p hp e => by
      have hp : p ∈ pa.tb := hp
      rw [htb] at hp
      rw [List.mem_singleton.mp hp]; rfl, rfl⟩
  exact zC (zSet C 1 (fD C (D__law_pen G) (aCC (nE 0) (pa_N)))) (zC (zF [1] (zIf (tNot (tru C (pe_Q (pe_frz (fAll (He.free_ok G.KX G.gn (G.t.fact 51 (f := .free "all") rfl)) (pe_Q (pe_frz (lcR C (T := (.nm 9)) (own := [(("lap" : Str), 9)]) (it_rng1 rfl (He.free_ok G.KX G.gn (G.t.fact 57 (f := .free "range") rfl)) rfl (pe_Q (kI))) (by rfl) (by decide) (fun s H env A fp C' => ⟨(gN 9), pe_frz (fD C' (D__law_case G) (aCC (nE 1) (pa_N)))⟩)))) C))))) (z1 (zRet (pe_R (kB)))) (z0))) (zC (zF [1] (zTg C (.tp [2, 3]) (gT2 2 3) (pe_tupE (aCC (pe_frz (fD C (D__law_pick G) (aCC (nE 1) (aCC (pe_frz (pe_lstE (aCC (kN) (aCC (kI) (aCC (pe_tupE (pa_N)) (aCC (pe_tupE (aCC (kS) (pa_N))) (aCC (pe_tupE (aCC (kB) (pa_N))) (aCC (pe_tupE (aCC (pe_tupE (aCC (kI) (aCC (kI) (pa_N)))) (pa_N))) (aCC (pe_frz (bin (bMul C) (pe_Q (pe_tupE (aCC (kI) (pa_N)))) (pe_Q (kI)))) (aCC (kS) (pa_N))))))))))) (pa_N))))) (aCC (pe_frz (fD C (D__law_pick G) (aCC (nE 1) (aCC (pe_frz (pe_lstE (aCC (kN) (aCC (kI) (aCC (pe_tupE (pa_N)) (aCC (pe_tupE (aCC (kI) (aCC (kI) (pa_N)))) (aCC (pe_tupE (aCC (kS) (pa_N))) (aCC (pe_tupE (aCC (kB) (pa_N))) (pa_N))))))))) (pa_N))))) (pa_N)))))) (zC (zF [1] (zTg C (.tp [4, 5, 6]) (gT3 4 5 6) (pe_tupE (aCC (pe_frz (fD C (D__law_pick G) (aCC (nE 1) (aCC (pe_frz (pe_lstE (aCC (kI) (aCC (kI) (aCC (kN) (aCC (kB) (aCC (kS) (pa_N)))))))) (pa_N))))) (aCC (pe_frz (fD C (D__law_pick G) (aCC (nE 1) (aCC (pe_frz (pe_lstE (aCC (kI) (aCC (kI) (aCC (kN) (aCC (kB) (pa_N))))))) (pa_N))))) (aCC (pe_frz (fD C (D__law_pick G) (aCC (nE 1) (aCC (pe_frz (pe_lstE (aCC (kI) (aCC (pe_frz (uNeg (pe_Q (kI)))) (aCC (kN) (aCC (kB) (pa_N))))))) (pa_N))))) (pa_N))))))) (zC (zF [1] (zSet C 7 (fD C (D__law_pick G) (aCC (nE 1) (aCC (pe_frz (pe_lstE (aCC (kN) (aCC (kI) (aCC (pe_tupE (pa_N)) (aCC (pe_tupE (aCC (kS) (pa_N))) (aCC (pe_tupE (aCC (kB) (pa_N))) (aCC (pe_frz (bin (bMul C) (pe_Q (pe_tupE (aCC (kI) (pa_N)))) (pe_Q (kI)))) (pa_N))))))))) (pa_N)))))) (zC (zSet C 8 (pe_lstE (aCC (pe_tupE (aCC (pe_lam MK (i := 0) ((congrArg (fun l => l[0]?) G.lams).trans (by rfl)) (LamX.lamS_by (by rfl)) rfl) (aCC (pe_tupE (aCC (kS) (aCC (nE 2) (pa_N)))) (pa_N)))) (pa_N)))) (zC (zApp C 8 (pe_tupE (aCC (pe_lam MK (i := 1) ((congrArg (fun l => l[1]?) G.lams).trans (by rfl)) (LamX.lamS_by (by rfl)) rfl) (aCC (pe_tupE (aCC (kS) (aCC (nE 3) (pa_N)))) (pa_N))))) (zC (zApp C 8 (pe_tupE (aCC (pe_lam MK (i := 2) ((congrArg (fun l => l[2]?) G.lams).trans (by rfl)) (LamX.lamS_by (by rfl)) rfl) (aCC (pe_tupE (aCC (kS) (aCC (kS) (aCC (nE 4) (pa_N))))) (pa_N))))) (zC (zF [7] (zApp C 8 (pe_tupE (aCC (pe_lam MK (i := 3) ((congrArg (fun l => l[3]?) G.lams).trans (by rfl)) (LamX.lamS_by (by rfl)) rfl) (aCC (pe_tupE (aCC (kS) (aCC (nE 7) (pa_N)))) (pa_N)))))) (zC (zApp C 8 (pe_tupE (aCC (pe_lam MK (i := 4) ((congrArg (fun l => l[4]?) G.lams).trans (by rfl)) (LamX.lamS_by (by rfl)) rfl) (aCC (pe_tupE (aCC (kS) (aCC (kS) (aCC (nE 5) (pa_N))))) (pa_N))))) (zC (zApp C 8 (pe_tupE (aCC (pe_lam MK (i := 5) ((congrArg (fun l => l[5]?) G.lams).trans (by rfl)) (LamX.lamS_by (by rfl)) rfl) (aCC (pe_tupE (aCC (kS) (aCC (kS) (aCC (nE 6) (pa_N))))) (pa_N))))) (zC (zApp C 8 (pe_tupE (aCC (pe_lam MK (i := 6) ((congrArg (fun l => l[6]?) G.lams).trans (by rfl)) (LamX.lamS_by (by rfl)) rfl) (aCC (pe_tupE (aCC (kS) (aCC (kS) (pa_N)))) (pa_N))))) (z1 (zF [8] (zRet (pe_defA C.K rfl rfl (fun _ => rfl) C.nd capL_ok (D__law_are_due G) C.hr (by decide) C.gd rfl (plainEs_at rfl) (aCC (nE 8) (pa_N)) (by decide))))))))))))))))
theorem law_binds {K : PySem.W.Frag} {fd : FuncData} (F : FunD K d47.name d47.qual d47.params d47.body d47.scope (d47.dvs K) (d47.kws K) (He.fAd K d47.at_) fd) (s : Shared) (u : Value) : BindsTo s fd ⟨[u], []⟩ [("script", u)] := (FunD.bindsA (ps := ["script"]) F fun _ _ _ _ _ _ us hl => match us, hl with | [_], _ => rfl) s [u] rfl
end
end K78

set_option Elab.async false
set_option linter.all false
set_option maxRecDepth 100000
set_option maxHeartbeats 4000000
/-! Den, part V: the mirror reckoned out. -/
namespace Dn
open PySem PySem.Spec L2

def Res.bind {α β : Type} (r : Res α) (k : α → Store → Res β) : Res β := match r with
  | .ok a st => k a st
  | .rz i fs st => .rz i fs st
  | .stuck => .stuck
section
variable {α β : Type} {st : Store} {ρ : Ev}
@[simp] theorem bind_ok (a : α) (k : α → Store → Res β) : (Res.ok a st).bind k = k a st := rfl
@[simp] theorem bind_rz (i : Nat) (fs : List D) (k : α → Store → Res β) : (Res.rz i fs st : Res α).bind k = .rz i fs st := rfl
@[simp] theorem bind_stuck (k : α → Store → Res β) : (Res.stuck : Res α).bind k = .stuck := rfl
theorem m_bind (f : M α) (h : α → M β) : (f >>= h) st = (f st).bind fun a st' => h a st' := by
  rw [run_bind]; cases f st <;> rfl
@[simp] theorem m_pure (a : α) : (pure a : M α) st = .ok a st := rfl
@[simp] theorem m_stuck : (stuck : M α) st = .stuck := rfl
@[simp] theorem m_ite {c : Prop} [Decidable c] (a b : M α) : (if c then a else b) st = if c then a st else b st := by split <;> rfl
@[simp] theorem ev_op2 (h : D → D → M RV) (fa fb : Ev → M D) : op2 h fa fb ρ st = (fa ρ st).bind fun x st1 => (fb ρ st1).bind fun y st2 => h x y st2 := by
  unfold op2; rw [m_bind]; congr 1
@[simp] theorem ev_op1 (h : D → M RV) (fa : Ev → M D) : op1 h fa ρ st = (fa ρ st).bind fun x st1 => h x st1 := by unfold op1; rw [m_bind]
@[simp] theorem ev_asD (f : Ev → M RV) : asD f ρ st = (f ρ st).bind fun r s => .ok r.d s := by unfold asD; rw [m_bind]; rfl
@[simp] theorem ev_asR (f : Ev → M D) : asR f ρ st = (f ρ st).bind fun d s => .ok (.val d) s := by unfold asR; rw [m_bind]; rfl
@[simp] theorem ev_kk (d : D) : kk d ρ st = .ok d st := rfl
@[simp] theorem ev_vr (i : Nat) : vr i ρ st = match ρ[i]? with | some (.val d) => .ok d st | _ => .stuck := by
  unfold vr; split <;> simp_all
@[simp] theorem ev_vq (i : Nat) : vq i ρ st = match ρ[i]? with | some (.val d) => .ok d st | some (.own ds) => .ok (.lst ds) st | _ => .stuck := by
  unfold vq; split <;> simp_all
@[simp] theorem ev_aN : aN ρ st = .ok [] st := rfl
@[simp] theorem ev_aC (f : Ev → M D) (fs : Ev → M (List D)) : aC f fs ρ st = (f ρ st).bind fun d s => (fs ρ s).bind fun ds s' => .ok (d :: ds) s' := by
  unfold aC; rw [m_bind]; congr 1
@[simp] theorem ev_tupE (fs : Ev → M (List D)) : tupE fs ρ st = (fs ρ st).bind fun ds s => tupM ds s := by unfold tupE; rw [m_bind]
@[simp] theorem ev_lstE (fs : Ev → M (List D)) : lstE fs ρ st = (fs ρ st).bind fun ds s => ownM ds s := by unfold lstE; rw [m_bind]
@[simp] theorem ev_callE (n : Nat) (h : List D → M RV) (fs : Ev → M (List D)) : callE n h fs ρ st = (fs ρ st).bind fun ds s => if ds.length = n then h ds s else .stuck := by
  unfold callE; rw [m_bind]; congr 1; funext ds s; split <;> rfl
@[simp] theorem ev_getE (k : Str) (f : Ev → M D) : getE k f ρ st = (f ρ st).bind fun d s => getM k d s := by unfold getE; rw [m_bind]
@[simp] theorem ev_truE (f : Ev → M D) : truE f ρ st = (f ρ st).bind fun d s => truM d s := by unfold truE; rw [m_bind]
@[simp] theorem ev_tstE (f : Ev → M RV) : tstE f ρ st = (f ρ st).bind fun r s => blM r s := by unfold tstE; rw [m_bind]
@[simp] theorem ev_notT (f : Ev → M Bool) : notT f ρ st = (f ρ st).bind fun b s => .ok (!b) s := by unfold notT; rw [m_bind]; rfl
@[simp] theorem ev_andT (f h : Ev → M Bool) : andT f h ρ st = (f ρ st).bind fun b s => if b then h ρ s else .ok false s := by
  unfold andT; rw [m_bind]; congr 1; funext b s; split <;> rfl
@[simp] theorem ev_orT (f h : Ev → M Bool) : orT f h ρ st = (f ρ st).bind fun b s => if b then .ok true s else h ρ s := by
  unfold orT; rw [m_bind]; congr 1; funext b s; split <;> rfl
@[simp] theorem ev_andD (f h : Ev → M D) : andD f h ρ st = (f ρ st).bind fun d s => (truM d s).bind fun b s => if b then h ρ s else .ok d s := by
  unfold andD; rw [m_bind]; congr 1; funext d s; rw [m_bind]; congr 1; funext b s; split <;> rfl
@[simp] theorem ev_orD (f h : Ev → M D) : orD f h ρ st = (f ρ st).bind fun d s => (truM d s).bind fun b s => if b then .ok d s else h ρ s := by
  unfold orD; rw [m_bind]; congr 1; funext d s; rw [m_bind]; congr 1; funext b s; split <;> rfl
@[simp] theorem ev_ifR (t : Ev → M Bool) (f h : Ev → M RV) : ifR t f h ρ st = (t ρ st).bind fun b s => if b then f ρ s else h ρ s := by
  unfold ifR; rw [m_bind]; congr 1; funext b s; split <;> rfl
@[simp] theorem ev_chn (h h' : D → D → M RV) (fa fb fc : Ev → M D) : chn h h' fa fb fc ρ st = (fa ρ st).bind fun x s => (fb ρ s).bind fun y s => (h x y s).bind fun r s => (blM r s).bind fun k s => if k then (fc ρ s).bind fun z s => h' y z s else .ok (.val (.bl false)) s := by
  unfold chn; rw [m_bind]; congr 1; funext x s; rw [m_bind]; congr 1; funext y s; rw [m_bind]; congr 1; funext r s; rw [m_bind]; congr 1; funext k s; split
  · rw [m_bind]
  · rfl
/-! statements -/
@[simp] theorem onR_ok (a : α) (k : α → Store → RS) : onR (.ok a st) ρ k = k a st := rfl
@[simp] theorem onR_rz (i : Nat) (fs : List D) (k : α → Store → RS) : onR (.rz i fs st : Res α) ρ k = .rz i fs ρ st := rfl
@[simp] theorem onR_stuck (k : α → Store → RS) : onR (.stuck : Res α) ρ k = .stuck := rfl
def RS.seq (r : RS) (b : SS) : RS := match r with
  | .nx ρ st => b ρ st
  | r => r
@[simp] theorem seq_nx (b : SS) : (RS.nx ρ st).seq b = b ρ st := rfl
@[simp] theorem seq_ret (r : RV) (b : SS) : (RS.ret r st).seq b = .ret r st := rfl
@[simp] theorem seq_brk (b : SS) : (RS.brk ρ st).seq b = .brk ρ st := rfl
@[simp] theorem seq_ct (b : SS) : (RS.ct ρ st).seq b = .ct ρ st := rfl
@[simp] theorem seq_rz (i : Nat) (fs : List D) (b : SS) : (RS.rz i fs ρ st).seq b = .rz i fs ρ st := rfl
@[simp] theorem seq_stuck (b : SS) : RS.stuck.seq b = .stuck := rfl
@[simp] theorem ev_sSeq (a b : SS) : sSeq a b ρ st = (a ρ st).seq b := by
  unfold sSeq RS.seq; cases a ρ st <;> rfl
@[simp] theorem ev_sSet (i : Nat) (f : Ev → M RV) : sSet i f ρ st = onR (f ρ st) ρ fun r s => if i < ρ.length then .nx (ρ.set i r.slot) s else .stuck := rfl
@[simp] theorem ev_sRet (f : Ev → M RV) : sRet f ρ st = onR (f ρ st) ρ fun r s => .ret r s := rfl
@[simp] theorem ev_sExp (f : Ev → M RV) : sExp f ρ st = onR (f ρ st) ρ fun _ s => .nx ρ s := rfl
@[simp] theorem ev_sIf (t : Ev → M Bool) (a b : SS) : sIf t a b ρ st = onR (t ρ st) ρ fun k s => if k then a ρ s else b ρ s := rfl
@[simp] theorem ev_sPar (i j : Nat) (f h : Ev → M D) : sPar i j f h ρ st = onR ((f ρ st).bind fun x s => (h ρ s).bind fun y s => .ok (x, y) s) ρ fun p s => if i < ρ.length ∧ j < ρ.length then .nx ((ρ.set i (.val p.1)).set j (.val p.2)) s else .stuck := by
  unfold sPar; rw [m_bind]; congr 2
@[simp] theorem ev_sTg (T : Tg) (f : Ev → M D) : sTg T f ρ st = onR (f ρ st) ρ fun d s => match T.put d ρ with | some ρ' => .nx ρ' s | none => .stuck := rfl
@[simp] theorem ev_sRaise (i n : Nat) (fs : Ev → M (List D)) : sRaise i n fs ρ st = onR (fs ρ st) ρ fun ds s => if ds.length = n ∧ n ≤ 800 then .rz i ds ρ s else .stuck := rfl
@[simp] theorem ev_sFor (q : Ev → M (List D)) (T : Tg) (b : SS) : sFor q T b ρ st = onR (q ρ st) ρ fun ds s => forM T b ds ρ s := rfl
@[simp] theorem ev_sNil : sNil ρ st = .nx ρ st := rfl
@[simp] theorem ev_sBrk : sBrk ρ st = .brk ρ st := rfl
@[simp] theorem ev_sCt : sCt ρ st = .ct ρ st := rfl
def RS.out (r : RS) : Res RV := match r with
  | .nx _ st => .ok (.val .non) st
  | .ret r st => .ok r st
  | .rz i fs _ st => .rz i fs st
  | _ => .stuck
@[simp] theorem out_nx : (RS.nx ρ st).out = .ok (.val .non) st := rfl
@[simp] theorem out_ret (r : RV) : (RS.ret r st).out = .ok r st := rfl
@[simp] theorem out_rz (i : Nat) (fs : List D) : (RS.rz i fs ρ st).out = .rz i fs st := rfl
@[simp] theorem ev_runF (N : List Str) (ss : SS) (ds : List D) : runF N ss ds st = (ss (startE N ds) st).out := by
  unfold runF RS.out; cases ss (startE N ds) st <;> rfl
@[simp] theorem ev_itS (f : Ev → M D) : itS f ρ st = (f ρ st).bind fun d s => seqM d s := by unfold itS; rw [m_bind]
@[simp] theorem ev_itR1 (f : Ev → M D) : itR1 f ρ st = (f ρ st).bind fun d s => rng1M d s := by unfold itR1; rw [m_bind]
end
end Dn

set_option Elab.async false
set_option linter.all false
set_option maxRecDepth 100000
set_option maxHeartbeats 4000000
/-! Den, part W: bounds, texts' sizes, the pen. -/
namespace Dn
open PySem PySem.Spec PyProof.Rows L2

/-! ### sizes of texts -/
mutual
def D.cost : D → Nat
  | .non => 4 | .bl _ => 5 | .int _ => 600 | .str x => (reprText x).length
  | .tup l => 3 + D.costAll l | .lst l => 3 + D.costAll l
  | .dic _ => 2
  | _ => 0
def D.costAll : List D → Nat
  | [] => 0 | d :: r => d.cost + 2 + D.costAll r
end
theorem nat_text {n : Nat} (h : n.log2 < 1920) : (Str.ofString (toString (n : Int))).length ≤ 598 := by
  have h1 : n < 2 ^ 1920 := lt_two_pow_of_log2_lt h
  have h2 : (2 : Nat) ^ 1920 ≤ 10 ^ 598 := by decide +kernel
  refine toString_length_le (Int.natCast_nonneg n) (by decide) ?_
  have : n < 10 ^ 598 := Nat.lt_of_lt_of_le h1 h2
  have e : ((10 : Int) ^ 598) = ((10 ^ 598 : Nat) : Int) := by simp
  rw [e]
  exact Int.ofNat_lt.mpr this
theorem int_text {i : Int} (h : i.natAbs.log2 < 1920) : (Str.ofString (toString i)).length ≤ 600 := by
  cases i with
  | ofNat n => exact Nat.le_trans (nat_text (n := n) h) (by decide)
  | negSucc n =>
    have h1 := nat_text (n := n + 1) h
    have e : toString (Int.negSucc n) = "-" ++ toString ((n + 1 : Nat) : Int) := rfl
    rw [e, PySem.ofString_length, String.length_append]
    rw [PySem.ofString_length] at h1
    have : "-".length = 1 := rfl
    omega
theorem listText_len (ts : List Str) : (listText ts).length ≤ 2 + piled ts := by
  unfold listText
  rw [strLen_append]
  have e1 : (("]" : String) : Str).length = 1 := rfl
  rw [e1]
  cases ts with
  | nil => show (("[" : String) : Str).length + 1 ≤ _; decide
  | cons t r =>
    show (textFrom 1 ((("[" : String) : Str) ++ (((if 0 > 0 then ", " else "" : String)) : Str) ++ t) r).length + 1 ≤ _
    rw [textFrom_length_pos r 1 _ (by decide), strLen_append, strLen_append, piled_cons]
    have e2 : (("[" : String) : Str).length = 1 := rfl
    have e3 : ((((if 0 > 0 then ", " else "" : String)) : Str)).length = 0 := rfl
    rw [e2, e3]
    omega
theorem tupleText_len (ts : List Str) : (tupleText ts).length ≤ 3 + piled ts := by
  unfold tupleText
  rw [strLen_append, strLen_append]
  have e1 : (("(" : String) : Str).length = 1 := rfl
  have e3 : (((if ts.length == 1 then ",)" else ")" : String) : Str)).length ≤ 2 := by split <;> decide
  rw [e1]
  cases ts with
  | nil =>
    have e4 : (Str.join ", " ([] : List Str)).length = 0 := rfl
    rw [e4]; omega
  | cons t r =>
    have := join_length_add (t :: r) (by simp)
    omega
mutual
theorem shown_len : ∀ d : D, d.rd = true → d.py.showable = true → d.py.shown.length ≤ d.cost
  | .non, _, _ => by decide
  | .bl b, _, _ => by cases b <;> decide
  | .int i, _, h => by
    simp only [D.py, PyData.showable, decide_eq_true_eq] at h
    exact int_text h
  | .str x, _, _ => Nat.le_refl _
  | .tup l, h, h2 => by
    have := shown_lenAll l (by simpa [D.rd] using h) (by simpa [D.py, PyData.showable] using h2)
    have h3 := tupleText_len (PyData.shownAll (D.pyAll l))
    show (tupleText (PyData.shownAll (D.pyAll l))).length ≤ 3 + D.costAll l
    omega
  | .lst l, h, h2 => by
    have := shown_lenAll l (by simpa [D.rd] using h) (by simpa [D.py, PyData.showable] using h2)
    have h3 := listText_len (PyData.shownAll (D.pyAll l))
    show (listText (PyData.shownAll (D.pyAll l))).length ≤ 3 + D.costAll l
    omega
  | .dic l, _, _ => by show (PyData.dict []).shown.length ≤ 2; decide
  | .scr l, h, _ => by simp [D.rd] at h
  | .fn l, h, _ => by simp [D.rd] at h
  | .ty l, h, _ => by simp [D.rd] at h
  | .cel l, h, _ => by simp [D.rd] at h
  | .clo l, h, _ => by simp [D.rd] at h
  | .ins l _, h, _ => by simp [D.rd] at h
theorem shown_lenAll : ∀ l : List D, D.rdAll l = true → PyData.showableAll (D.pyAll l) = true → piled (PyData.shownAll (D.pyAll l)) ≤ D.costAll l
  | [], _, _ => by decide
  | d :: l, h, h2 => by
    simp only [D.rdAll, Bool.and_eq_true] at h
    simp only [D.pyAll, PyData.showableAll, Bool.and_eq_true] at h2
    have h3 := shown_len d h.1 h2.1
    have h4 := shown_lenAll l h.2 h2.2
    show piled (d.py.shown :: PyData.shownAll (D.pyAll l)) ≤ d.cost + 2 + D.costAll l
    rw [piled_cons]
    omega
end
theorem repr_ok {d : D} {st : Store} (h1 : d.rd = true) (h2 : d.py.showable = true) (h3 : d.py.depth ≤ 64) (h4 : d.cost ≤ 16777216) : reprM d st = .ok (.val (.str d.py.shown)) st := by
  unfold reprM okR lineOk
  rw [h1, h2]
  simp only [Bool.true_and, Bool.and_eq_true, decide_eq_true_eq]
  rw [if_pos ⟨h3, Nat.le_trans (shown_len d h1 h2) h4⟩]
  rfl
/-! equalities -/
theorem okE_int (a : Int) : okE (.int a) = true := rfl
@[simp] theorem eq_ii (a b : Int) (st : Store) : eqM (.int a) (.int b) st = .ok (.val (.bl (a == b))) st := by
  have : eqO (.int a) (.int b) = some (a == b) := by
    unfold eqO
    simp only [okE_int, Bool.and_self, if_true, D.py, PyData.eqv]
  unfold eqM
  rw [this]; rfl
@[simp] theorem ne_ii (a b : Int) (st : Store) : neM (.int a) (.int b) st = .ok (.val (.bl (!(a == b)))) st := by
  have : eqO (.int a) (.int b) = some (a == b) := by
    unfold eqO
    simp only [okE_int, Bool.and_self, if_true, D.py, PyData.eqv]
  unfold neM
  rw [this]; rfl
@[simp] theorem eq_ss (a b : Str) (st : Store) : eqM (.str a) (.str b) st = .ok (.val (.bl (a == b))) st := rfl
@[simp] theorem ne_ss (a b : Str) (st : Store) : neM (.str a) (.str b) st = .ok (.val (.bl (!(a == b)))) st := rfl
/-! arithmetic, each in its bounds -/
@[simp] theorem add_ii (a b : Int) (st : Store) : addM (.int a) (.int b) st = .ok (.val (.int (a + b))) st := rfl
@[simp] theorem sub_ii (a b : Int) (st : Store) : subM (.int a) (.int b) st = .ok (.val (.int (a - b))) st := rfl
theorem mul_ii {a b : Int} (st : Store) (h : a.natAbs.log2 + b.natAbs.log2 < 1000000) : mulM (.int a) (.int b) st = .ok (.val (.int (a * b))) st := by
  show (if mulOk a b then retI (a * b) else stuck : M RV) st = _
  rw [if_pos (by unfold mulOk; exact decide_eq_true h)]; rfl
theorem div_ii {a b : Int} (st : Store) (h0 : b ≠ 0) (h : b.natAbs.log2 < 9000) : divM (.int a) (.int b) st = .ok (.val (.int (a.fdiv b))) st := by
  show (if divOk b then retI (a.fdiv b) else stuck : M RV) st = _
  rw [if_pos (by unfold divOk; rw [decide_eq_true h0, decide_eq_true h]; rfl)]; rfl
theorem mod_ii {a b : Int} (st : Store) (h0 : b ≠ 0) : modM (.int a) (.int b) st = .ok (.val (.int (a.fmod b))) st := by
  show (if b = 0 then stuck else retI (a.fmod b) : M RV) st = _
  rw [if_neg h0]; rfl
theorem pow_ii {a b : Int} (st : Store) (h : 0 ≤ b ∧ b ≤ 1000000 ∧ a.natAbs < 2 ^ 64) : powM (.int a) (.int b) st = .ok (.val (.int (a ^ b.toNat))) st := by
  show (if powOk a b then retI (a ^ b.toNat) else stuck : M RV) st = _
  rw [if_pos (by unfold powOk; exact decide_eq_true h)]; rfl
@[simp] theorem lt_ii (a b : Int) (st : Store) : ltM (.int a) (.int b) st = .ok (.val (.bl (decide (a < b)))) st := rfl
@[simp] theorem le_ii (a b : Int) (st : Store) : leM (.int a) (.int b) st = .ok (.val (.bl (decide (a ≤ b)))) st := rfl
@[simp] theorem gt_ii (a b : Int) (st : Store) : gtM (.int a) (.int b) st = .ok (.val (.bl (decide (b < a)))) st := rfl
@[simp] theorem ge_ii (a b : Int) (st : Store) : geM (.int a) (.int b) st = .ok (.val (.bl (decide (b ≤ a)))) st := rfl
theorem rng1_i {j : Int} (st : Store) (h : -(2 ^ 62) ≤ j ∧ j < 2 ^ 62) : rng1M (.int j) st = .ok (rngD 0 j.toNat) st := by
  show (if decide (-(2 ^ 62) ≤ j ∧ j < 2 ^ 62) then pure (rngD 0 j.toNat) else stuck : M (List D)) st = _
  rw [if_pos (decide_eq_true h)]; rfl
theorem bits_le {m : Nat} {x : Int} (h : x.natAbs < 2 ^ m) : Builtin.Int.intBits x ≤ m := by
  unfold Builtin.Int.intBits
  split
  · omega
  · rename_i h0
    have h0 : x.natAbs ≠ 0 := by simp at h0; omega
    have := (Nat.log2_lt h0).mpr h
    omega
theorem bits_lt (x : Int) : x.natAbs < 2 ^ Builtin.Int.intBits x := by
  unfold Builtin.Int.intBits
  split
  · rename_i h0
    simp at h0
    subst h0
    decide
  · rename_i h0
    have h0 : x.natAbs ≠ 0 := by simp at h0; omega
    exact (Nat.log2_lt h0).mp (Nat.lt_succ_self _)
@[simp] theorem bl_ok (b : Bool) (st : Store) : blM (.val (.bl b)) st = .ok b st := rfl
@[simp] theorem int_i (a : Int) (st : Store) : intM (.int a) st = .ok (.val (.int a)) st := rfl
@[simp] theorem neg_i (a : Int) (st : Store) : negM (.int a) st = .ok (.val (.int (-a))) st := rfl
@[simp] theorem abs_i (a : Int) (st : Store) : absM (.int a) st = .ok (.val (.int (if a < 0 then -a else a))) st := rfl
@[simp] theorem gcd_ii (a b : Int) (st : Store) : gcdM (.int a) (.int b) st = .ok (.val (.int ((Nat.gcd a.natAbs b.natAbs : Nat) : Int))) st := rfl
@[simp] theorem len_l (l : List D) (st : Store) : lenM (.lst l) st = .ok (.val (.int l.length)) st := rfl
@[simp] theorem len_t (l : List D) (st : Store) : lenM (.tup l) st = .ok (.val (.int l.length)) st := rfl
@[simp] theorem tru_b (b : Bool) (st : Store) : truM (.bl b) st = .ok b st := rfl
@[simp] theorem not_b (b : Bool) (st : Store) : notM (.bl b) st = .ok (.val (.bl (!b))) st := rfl
@[simp] theorem slot_val (d : D) : (RV.val d).slot = .val d := rfl
theorem ix_l {l : List D} {i : Int} {d : D} (st : Store) (h0 : 0 ≤ i) (h : l[i.toNat]? = some d) : ixM (.lst l) (.int i) st = .ok (.val d) st := by
  have hl := (List.getElem?_eq_some_iff.mp h).1
  have e : atI l i = some d := by
    unfold atI ixN
    rw [if_pos h0, if_pos (by omega)]
    exact h
  show (atD l i) st = _
  unfold atD
  rw [e]; rfl
theorem ix_t {l : List D} {i : Int} {d : D} (st : Store) (h0 : 0 ≤ i) (h : l[i.toNat]? = some d) : ixM (.tup l) (.int i) st = .ok (.val d) st := by
  have hl := (List.getElem?_eq_some_iff.mp h).1
  have e : atI l i = some d := by
    unfold atI ixN
    rw [if_pos h0, if_pos (by omega)]
    exact h
  show (atD l i) st = _
  unfold atD
  rw [e]; rfl
@[simp] theorem ix_t0 (x y : D) (st : Store) : ixM (.tup [x, y]) (.int 0) st = .ok (.val x) st := rfl
@[simp] theorem ix_t1 (x y : D) (st : Store) : ixM (.tup [x, y]) (.int 1) st = .ok (.val y) st := rfl
@[simp] theorem ix_l0 (x y : D) (st : Store) : ixM (.lst [x, y]) (.int 0) st = .ok (.val x) st := rfl
@[simp] theorem ix_l1 (x y : D) (st : Store) : ixM (.lst [x, y]) (.int 1) st = .ok (.val y) st := rfl
@[simp] theorem tup_2 (x y : D) (st : Store) : tupM [x, y] st = .ok (.tup [x, y]) st := rfl
theorem log_lt {n k : Nat} (h : n < 2 ^ k) (hk : 0 < k) : n.log2 < k := by
  by_cases h0 : n = 0
  · subst h0; simpa using hk
  · exact (Nat.log2_lt h0).mpr h
end Dn

set_option Elab.async false
set_option linter.all false
set_option maxRecDepth 100000
set_option maxHeartbeats 4000000
/-! the law's own pen, draw, pick, gcd: what they give, for every law -/
namespace Dn
open PySem PySem.Spec PyProof.Rows L2
namespace Pen
/-! ### the pen -/
abbrev penC (ns : List Int) (a d c f : Int) : Cel := [("cells", .lst (ns.map D.int)), ("at", .int a), ("digits", .int d), ("count", .int c), ("fold", .int f)]
section
variable {ns : List Int} {a d c f v : Int} {ρ : Ev} {r : Store}
@[simp] theorem g_cells : getM "cells" (.cel 0) (penC ns a d c f :: r) = .ok (.lst (ns.map D.int)) (penC ns a d c f :: r) := rfl
@[simp] theorem g_at : getM "at" (.cel 0) (penC ns a d c f :: r) = .ok (.int a) (penC ns a d c f :: r) := rfl
@[simp] theorem g_digits : getM "digits" (.cel 0) (penC ns a d c f :: r) = .ok (.int d) (penC ns a d c f :: r) := rfl
@[simp] theorem g_count : getM "count" (.cel 0) (penC ns a d c f :: r) = .ok (.int c) (penC ns a d c f :: r) := rfl
@[simp] theorem g_fold : getM "fold" (.cel 0) (penC ns a d c f :: r) = .ok (.int f) (penC ns a d c f :: r) := rfl
def putR (ρ : Ev) (k : Str) (v dd : D) (st' : Store) : RS := match dd with
  | .cel i => match st'[i]? with
    | some c => if decide (k ∈ c.map (·.1)) && decide ((c.map (·.1)).Nodup) && decide (c.length < 1000) then .nx ρ (st'.set i (setC k v c)) else .stuck
    | none => .stuck
  | _ => .stuck
@[simp] theorem ev_sPut (k : Str) (fd fv : Ev → M D) (st : Store) : sPut k fd fv ρ st = onR ((fv ρ st).bind fun v s => (fd ρ s).bind fun d s => .ok (v, d) s) ρ fun p s => putR ρ k p.1 p.2 s := by
  unfold sPut
  rw [m_bind]
  congr 1
@[simp] theorem p_at : putR ρ "at" (.int v) (.cel 0) (penC ns a d c f :: r) = .nx ρ (penC ns v d c f :: r) := rfl
@[simp] theorem p_digits : putR ρ "digits" (.int v) (.cel 0) (penC ns a d c f :: r) = .nx ρ (penC ns a v c f :: r) := rfl
@[simp] theorem p_count : putR ρ "count" (.int v) (.cel 0) (penC ns a d c f :: r) = .nx ρ (penC ns a d v f :: r) := rfl
@[simp] theorem p_fold : putR ρ "fold" (.int v) (.cel 0) (penC ns a d c f :: r) = .nx ρ (penC ns a d c v :: r) := rfl
end
def dA : SS := (sIf (andT (tstE (op2 eqM (getE "digits" (vr 0)) (kk (.int 0)))) (tstE (op2 ltM (getE "at" (vr 0)) (asD (op1 lenM (getE "cells" (vr 0))))))) (sSeq (sSet 2 (op2 ixM (getE "cells" (vr 0)) (getE "at" (vr 0)))) (sSeq (sPut "at" (vr 0) (asD (op2 addM (getE "at" (vr 0)) (kk (.int 1))))) (sIf (tstE (op2 geM (vq 2) (asD (op2 powM (kk (.int 10)) (kk (.int 18)))))) (sPut "digits" (vr 0) (asD (op2 subM (vq 2) (asD (op2 powM (kk (.int 10)) (kk (.int 18))))))) (sPut "fold" (vr 0) (asD (op2 modM (asD (op1 intM (asD (op2 addM (asD (op2 mulM (getE "fold" (vr 0)) (kk (.int 30727)))) (vq 2))))) (kk (.int 2147483179)))))))) (sNil))
def dB : SS := (sSeq (sIf (tstE (op2 gtM (getE "digits" (vr 0)) (kk (.int 0)))) (sSeq (sSet 3 (op2 modM (asD (op1 intM (getE "digits" (vr 0)))) (vq 1))) (sSeq (sPut "digits" (vr 0) (asD (op2 divM (getE "digits" (vr 0)) (vq 1)))) (sRet (asR (vr 3))))) (sNil)) (sSeq (sSet 4 (op2 addM (asD (op2 addM (getE "fold" (vr 0)) (asD (op2 mulM (getE "count" (vr 0)) (kk (.int 6421)))))) (kk (.int 131)))) (sRet (op2 modM (asD (op2 divM (asD (op1 intM (asD (op2 modM (asD (op2 powM (vq 4) (kk (.int 47)))) (kk (.int 2305843009213693951)))))) (kk (.int 512)))) (vq 1)))))
def sDraw : SS := sSeq (sPut "count" (vr 0) (asD (op2 addM (getE "count" (vr 0)) (kk (.int 1))))) (sSeq dA dB)
def fDraw : List D → M RV := runF [("pen" : Str), ("many" : Str), ("cell" : Str), ("digit" : Str), ("blend" : Str)] sDraw
theorem pow18 (st : Store) : powM (.int 10) (.int 18) st = .ok (.val (.int 1000000000000000000)) st := by
  rw [pow_ii st (by decide)]; rfl
theorem dA_ok {r : Store} {ns : List Int} {a d c f : Int} {m : Slot} (ha : 0 ≤ a) (hd : 0 ≤ d) (hf : 0 ≤ f) (hf2 : f < 2147483179) : ∃ s a' d' f', dA [.val (.cel 0), m, .un, .un, .un] (penC ns a d c f :: r) = .nx [.val (.cel 0), m, s, .un, .un] (penC ns a' d' c f' :: r) ∧ 0 ≤ a' ∧ 0 ≤ d' ∧ 0 ≤ f' ∧ f' < 2147483179 := by
  unfold dA
  by_cases h0 : d = 0
  · subst h0
    by_cases h1 : a < ns.length
    · have hx : (ns.map D.int)[a.toNat]? = some (.int ns[a.toNat]) := by
        rw [List.getElem?_map, List.getElem?_eq_getElem (by omega)]; rfl
      by_cases h2 : (1000000000000000000 : Int) ≤ ns[a.toNat]
      · refine ⟨.val (.int ns[a.toNat]), a + 1, ns[a.toNat] - 1000000000000000000, f, ?_, by omega, by omega, hf, hf2⟩
        simp [h1, ix_l _ ha hx, pow18, h2]
      · refine ⟨.val (.int ns[a.toNat]), a + 1, 0, (f * 30727 + ns[a.toNat]).fmod 2147483179, ?_, by omega, by omega, Int.fmod_nonneg_of_pos _ (by decide), Int.fmod_lt_of_pos _ (by decide)⟩
        have hl : f.natAbs.log2 + (30727 : Int).natAbs.log2 < 1000000 := by
          have h3 : f.natAbs.log2 < 64 := log_lt (by omega) (by decide)
          have h4 : (30727 : Int).natAbs.log2 < 64 := by decide
          omega
        simp [h1, ix_l _ ha hx, pow18, h2, mul_ii _ hl, mod_ii]
    · refine ⟨.un, a, 0, f, ?_, ha, hd, hf, hf2⟩
      simp [h1]
  · refine ⟨.un, a, d, f, ?_, ha, hd, hf, hf2⟩
    simp [h0]
theorem dB_ok {r : Store} {ns : List Int} {a d c f many : Int} {s : Slot} (ha : 0 ≤ a) (hd : 0 ≤ d) (hc : 0 ≤ c) (hc2 : c ≤ 1000001) (hf : 0 ≤ f) (hf2 : f < 2147483179) (hm : 0 < many) (hm2 : many < 2 ^ 64) :
    ∃ k d', (dB [.val (.cel 0), .val (.int many), s, .un, .un] (penC ns a d c f :: r)).out = .ok (.val (.int k)) (penC ns a d' c f :: r) ∧ 0 ≤ k ∧ k < many ∧ 0 ≤ d' := by
  unfold dB
  have hm0 : many ≠ 0 := by omega
  have hml : many.natAbs.log2 < 9000 := by
    have : many.natAbs.log2 < 64 := log_lt (by omega) (by decide)
    omega
  by_cases h0 : 0 < d
  · refine ⟨d.fmod many, d.fdiv many, ?_, Int.fmod_nonneg_of_pos _ hm, Int.fmod_lt_of_pos _ hm, ?_⟩
    · simp [h0, mod_ii _ hm0, div_ii _ hm0 hml]
    · rw [Int.fdiv_eq_ediv_of_nonneg _ (by omega)]
      exact Int.ediv_nonneg hd (by omega)
  · refine ⟨((((f + c * 6421 + 131) ^ 47).fmod 2305843009213693951).fdiv 512).fmod many, d, ?_, Int.fmod_nonneg_of_pos _ hm, Int.fmod_lt_of_pos _ hm, hd⟩
    have hl : c.natAbs.log2 + (6421 : Int).natAbs.log2 < 1000000 := by
      have h3 : c.natAbs.log2 < 64 := log_lt (by omega) (by decide)
      have h4 : (6421 : Int).natAbs.log2 < 64 := by decide
      omega
    have hp : (0 : Int) ≤ 47 ∧ (47 : Int) ≤ 1000000 ∧ (f + c * 6421 + 131).natAbs < 2 ^ 64 := ⟨by decide, by decide, by omega⟩
    simp [h0, mul_ii _ hl, pow_ii _ hp, mod_ii, div_ii _ (show (512 : Int) ≠ 0 by decide) (by decide), mod_ii _ hm0]
theorem draw_ok {r : Store} {ns : List Int} {a d c f many : Int} (ha : 0 ≤ a) (hd : 0 ≤ d) (hc : 0 ≤ c) (hc2 : c ≤ 1000000) (hf : 0 ≤ f) (hf2 : f < 2147483179) (hm : 0 < many) (hm2 : many < 2 ^ 64) :
    ∃ k a' d' f', fDraw [.cel 0, .int many] (penC ns a d c f :: r) = .ok (.val (.int k)) (penC ns a' d' (c + 1) f' :: r) ∧ 0 ≤ k ∧ k < many ∧ 0 ≤ a' ∧ 0 ≤ d' ∧ 0 ≤ f' ∧ f' < 2147483179 := by
  have hs : startE [("pen" : Str), ("many" : Str), ("cell" : Str), ("digit" : Str), ("blend" : Str)] [.cel 0, .int many] = [.val (.cel 0), .val (.int many), .un, .un, .un] := rfl
  obtain ⟨s, a', d', f', h1, h2, h3, h4, h5⟩ := dA_ok (ns := ns) (c := c + 1) (m := .val (.int many)) ha hd hf hf2
  obtain ⟨k, d2, g1, g2, g3, g4⟩ := dB_ok (ns := ns) (s := s) h2 h3 (show 0 ≤ c + 1 by omega) (by omega) h4 h5 hm hm2
  refine ⟨k, a', d2, f', ?_, g2, g3, h2, g4, h4, h5⟩
  unfold fDraw
  unfold sDraw
  rw [ev_runF, hs, ev_sSeq]
  simp only [ev_sPut, ev_asD, ev_op2, ev_getE, ev_vr, ev_kk, bind_ok, List.getElem?_cons_zero, g_count, add_ii, RV.d_val, onR_ok, p_count, seq_nx]
  rw [ev_sSeq, h1, seq_nx, g1]
def PenI (r : Store) (n : Int) (st : Store) : Prop := ∃ ns a d c f, st = (penC ns a d c f :: r) ∧ 0 ≤ a ∧ 0 ≤ d ∧ 0 ≤ c ∧ c ≤ n ∧ 0 ≤ f ∧ f < 2147483179
theorem PenI.mono {r : Store} {n m : Int} {st : Store} (h : PenI r n st) (hn : n ≤ m) : PenI r m st := by
  obtain ⟨ns, a, d, c, f, h1, h2, h3, h4, h5, h6⟩ := h
  exact ⟨ns, a, d, c, f, h1, h2, h3, h4, by omega, h6⟩
theorem draw {r : Store} {n many : Int} {st : Store} (h : PenI r n st) (hn : n ≤ 1000000) (hm : 0 < many) (hm2 : many < 2 ^ 64) : ∃ k st', fDraw [.cel 0, .int many] st = .ok (.val (.int k)) st' ∧ 0 ≤ k ∧ k < many ∧ PenI r (n + 1) st' := by
  obtain ⟨ns, a, d, c, f, rfl, h2, h3, h4, h5, h6, h7⟩ := h
  obtain ⟨k, a', d', f', g1, g2, g3, g4, g5, g6, g7⟩ := draw_ok (ns := ns) h2 h3 h4 (by omega) h6 h7 hm hm2
  exact ⟨k, _, g1, g2, g3, ns, a', d', c + 1, f', rfl, g4, g5, by omega, by omega, g6, g7⟩
def sPick : SS := sRet (op2 ixM (vq 1) (asD (callE 2 fDraw (aC (vr 0) (aC (asD (op1 lenM (vq 1))) (aN))))))
def fPick : List D → M RV := runF [("pen" : Str), ("some" : Str)] sPick
theorem pick {r : Store} {n : Int} {st : Store} {l : List D} (h : PenI r n st) (hn : n ≤ 1000000) (hl : 0 < l.length) (hl2 : l.length < 2 ^ 64) : ∃ (i : Nat) (x : D) (st' : Store), fPick [.cel 0, .lst l] st = .ok (.val x) st' ∧ l[i]? = some x ∧ PenI r (n + 1) st' := by
  obtain ⟨k, st', g1, g2, g3, g4⟩ := draw (many := l.length) h hn (by omega) (by omega)
  have hx : l[k.toNat]? = some l[k.toNat] := List.getElem?_eq_getElem (by omega)
  refine ⟨k.toNat, l[k.toNat], st', ?_, hx, g4⟩
  unfold fPick sPick
  have hs : startE [("pen" : Str), ("some" : Str)] [.cel 0, .lst l] = [.val (.cel 0), .val (.lst l)] := rfl
  rw [ev_runF, hs]
  simp [g1, ix_l _ g2 hx]
def pB : SS := (sSet 1 (op2 modM (asD (op1 intM (asD (op2 addM (asD (op2 mulM (vq 1) (kk (.int 139)))) (vq 2))))) (kk (.int 999999491))))
theorem ev_celE (ks : List Str) (fs : List (Ev → M D)) {ρ : Ev} {st : Store} : celE ks fs ρ st = ((fs.foldr aC aN) ρ st).bind fun ds s => newC (ks.zip ds) s := by
  unfold celE; rw [m_bind]
theorem pen_turn (x z f : Int) (y : D) (s : Slot) (st : Store) (hf : 0 ≤ f) (hf2 : f < 999999491) : pB [.val y, .val (.int f), .val (.int z)] st = .nx [.val y, .val (.int ((f * 139 + z).fmod 999999491)), .val (.int z)] st := by
  have hmul : mulM (.int f) (.int 139) st = .ok (.val (.int (f * 139))) st := by
    refine mul_ii st ?_
    have h1 : (139 : Int).natAbs.log2 < 64 := by decide
    have h2 : f.natAbs.log2 < 64 := log_lt (by omega) (by decide)
    omega
  have hmod : modM (.int (f * 139 + z)) (.int 999999491) st = .ok (.val (.int ((f * 139 + z).fmod 999999491))) st := mod_ii st (by decide)
  unfold pB
  simp -implicitDefEqProofs only [ev_sSet, ev_op2, ev_asD, ev_op1, ev_vq, ev_kk, List.getElem?_cons_zero, List.getElem?_cons_succ, bind_ok, RV.d_val, hmul, add_ii, int_i, hmod, onR_ok, slot_val, List.length_cons, List.length_nil, List.set_cons_succ, List.set_cons_zero]
  rw [if_pos (by decide)]
theorem pen_loop (y : D) : ∀ (ns : List Int) (f : Int) (s : Slot) (st : Store), 0 ≤ f → f < 999999491 → ∃ f' s', Dn.forM (.nm 2) pB (ns.map D.int) [.val y, .val (.int f), s] st = .nx [.val y, .val (.int f'), s'] st ∧ 0 ≤ f' ∧ f' < 999999491
  | [], f, s, st, h1, h2 => ⟨f, s, rfl, h1, h2⟩
  | n :: ns, f, s, st, h1, h2 => by
    obtain ⟨f', s', g1, g2⟩ := pen_loop y ns ((f * 139 + n).fmod 999999491) (.val (.int n)) st (Int.fmod_nonneg_of_pos _ (by decide)) (Int.fmod_lt_of_pos _ (by decide))
    refine ⟨f', s', ?_, g2⟩
    rw [List.map_cons, Dn.forM]
    simp only [Tg.put, List.length_cons, List.length_nil]
    rw [if_pos (by decide)]
    simp only [List.set_cons_succ, List.set_cons_zero, pen_turn n n f y s st h1 h2, g1]
def sPen : SS := sSeq (sSet 1 (asR (kk (.int 0)))) (sSeq (sFor (itS (vr 0)) (.nm 2) pB) (sRet (asR (celE [("cells" : Str), ("at" : Str), ("digits" : Str), ("count" : Str), ("fold" : Str)] [asD (op1 listM (vq 0)), kk (.int 0), kk (.int 0), kk (.int 0), vr 1]))))
def fPen : List D → M RV := runF [("script" : Str), ("fold" : Str), ("cell" : Str)] sPen
theorem own_ok {l : List D} (st : Store) (h : l.length ≤ 16777216) : ownM l st = .ok (.own l) st := by
  unfold ownM lineOk
  rw [if_pos (decide_eq_true h)]; rfl
theorem pen_end (ns : List Int) (f : Int) (s : Slot) (h : ns.length ≤ 63) : (sRet (asR (celE [("cells" : Str), ("at" : Str), ("digits" : Str), ("count" : Str), ("fold" : Str)] [asD (op1 listM (vq 0)), kk (.int 0), kk (.int 0), kk (.int 0), vr 1]))) [.val (.scr (ns.map D.int)), .val (.int f), s] [] = .ret (.val (.cel 0)) [penC ns 0 0 0 f] := by
  have hl : listM (.scr (ns.map D.int)) [] = .ok (.own (ns.map D.int)) [] := own_ok [] (by rw [List.length_map]; omega)
  simp -implicitDefEqProofs only [ev_sRet, ev_asR, ev_celE, List.foldr, ev_aC, ev_asD, ev_op1, ev_vq, ev_vr, ev_kk, ev_aN, List.getElem?_cons_zero, List.getElem?_cons_succ, bind_ok, hl, RV.d_own]
  rfl
theorem pen_ok (ns : List Int) (h : ns.length ≤ 63) : ∃ st, fPen [.scr (ns.map D.int)] [] = .ok (.val (.cel 0)) st ∧ PenI [] 0 st := by
  obtain ⟨f, s, g1, g2, g3⟩ := pen_loop (.scr (ns.map D.int)) ns 0 .un [] (by decide) (by decide)
  refine ⟨[penC ns 0 0 0 f], ?_, ns, 0, 0, 0, f, rfl, by decide, by decide, by decide, by decide, g2, by omega⟩
  have hs : startE [("script" : Str), ("fold" : Str), ("cell" : Str)] [.scr (ns.map D.int)] = [.val (.scr (ns.map D.int)), .un, .un] := rfl
  have e1 : (sSet 1 (asR (kk (.int 0)))) [.val (.scr (ns.map D.int)), .un, .un] [] = .nx [.val (.scr (ns.map D.int)), .val (.int 0), .un] [] := rfl
  have e2 : (itS (vr 0)) [.val (.scr (ns.map D.int)), .val (.int 0), .un] [] = .ok (ns.map D.int) [] := rfl
  unfold fPen
  unfold sPen
  rw [ev_runF, hs, ev_sSeq, e1, seq_nx, ev_sSeq, ev_sFor, e2, onR_ok, g1, seq_nx, pen_end ns f s h, out_ret]
/-! ### gcd -/
def gB : SS := (sSeq (sIf (tstE (op2 eqM (vq 1) (kk (.int 0)))) (sBrk) (sNil)) (sPar 0 1 (vr 1) (asD (op2 modM (asD (op1 intM (vq 0))) (vq 1)))))
theorem fmod_nat (x y : Nat) (h : y ≠ 0) : (x : Int).fmod (y : Int) = ((x % y : Nat) : Int) := by
  rw [Int.fmod_eq_emod_of_nonneg _ (by omega)]; rfl
theorem gcd_step (x y : Nat) : Nat.gcd x y = Nat.gcd y (x % y) := by
  rw [Nat.gcd_comm x y, Nat.gcd_rec y x, Nat.gcd_comm]
theorem gcd_stop (d : D) (l : List D) (x : Nat) (s : Slot) (st : Store) : Dn.forM (.nm 2) gB (d :: l) [.val (.int x), .val (.int 0), s] st = .nx [.val (.int x), .val (.int 0), .val d] st := by
  simp [Dn.forM, Tg.put, gB]
theorem gcd_turn (d : D) (l : List D) (x y : Nat) (s : Slot) (st : Store) (h0 : y ≠ 0) : Dn.forM (.nm 2) gB (d :: l) [.val (.int x), .val (.int y), s] st = Dn.forM (.nm 2) gB l [.val (.int y), .val (.int ((x % y : Nat) : Int)), .val d] st := by
  have h0i : (y : Int) ≠ 0 := by omega
  have e1 : gB [.val (.int x), .val (.int y), .val d] st = .nx [.val (.int y), .val (.int ((x % y : Nat) : Int)), .val d] st := by
    unfold gB
    simp [h0, mod_ii _ h0i, fmod_nat x y h0]
  rw [Dn.forM]
  simp only [Tg.put, List.length_cons, List.length_nil]
  rw [if_pos (by decide)]
  simp only [List.set_cons_succ, List.set_cons_zero, e1]
theorem gcd_loop : ∀ (k : Nat) (l : List D) (x y : Nat) (s : Slot) (st : Store), y < 2 ^ k → 2 * k + 1 ≤ l.length → ∃ s', Dn.forM (.nm 2) gB l [.val (.int x), .val (.int y), s] st = .nx [.val (.int (Nat.gcd x y)), .val (.int 0), s'] st
  | k, [], x, y, s, st, hy, hl => by simp at hl
  | k, d :: l, x, y, s, st, hy, hl => by
    by_cases h0 : y = 0
    · subst h0
      exact ⟨.val d, by rw [Nat.gcd_zero_right]; exact gcd_stop d l x s st⟩
    · cases k with
      | zero => omega
      | succ k =>
        rw [gcd_turn d l x y s st h0, gcd_step x y]
        cases l with
        | nil => simp at hl
        | cons d2 l =>
          by_cases h1 : x % y = 0
          · rw [h1, Nat.gcd_zero_right]
            exact ⟨.val d2, gcd_stop d2 l y _ st⟩
          · rw [gcd_turn d2 l y (x % y) _ st h1, gcd_step y (x % y)]
            refine gcd_loop k l (x % y) (y % (x % y)) _ st ?_ (by simp at hl; omega)
            have h2 : x % y < y := Nat.mod_lt _ (by omega)
            have h3 : y % (x % y) < x % y := Nat.mod_lt _ (by omega)
            have h4 : y % (x % y) + (x % y) * (y / (x % y)) = y := Nat.mod_add_div y (x % y)
            have h5 : 1 ≤ y / (x % y) := Nat.div_pos (by omega) (by omega)
            have h6 : x % y ≤ (x % y) * (y / (x % y)) := Nat.le_mul_of_pos_right _ h5
            rw [Nat.pow_succ] at hy
            omega
def sGcd : SS := sSeq (sPar 0 1 (asD (op1 absM (vq 0))) (asD (op1 absM (vq 1)))) (sSeq (sFor (itR1 (asD (op2 addM (kk (.int 4)) (asD (op2 mulM (kk (.int 2)) (asD (op1 bitsM (asD (op1 intM (vq 1)))))))))) (.nm 2) gB) (sRet (asR (vr 0))))
def fGcdL : List D → M RV := runF [("one" : Str), ("two" : Str), ("lap" : Str)] sGcd
theorem gcd_t1 {a b : Int} (st : Store) : (sPar 0 1 (asD (op1 absM (vq 0))) (asD (op1 absM (vq 1)))) [.val (.int a), .val (.int b), .un] st = .nx [.val (.int (a.natAbs : Int)), .val (.int (b.natAbs : Int)), .un] st := by
  have ha : (if a < 0 then -a else a) = (a.natAbs : Int) := by split <;> omega
  have hb' : (if b < 0 then -b else b) = (b.natAbs : Int) := by split <;> omega
  simp [ha, hb']
theorem gcd_t2 (n : Nat) (h200 : n ≤ 200) (st : Store) : mulM (.int 2) (.int (n : Int)) st = .ok (.val (.int (2 * (n : Int)))) st := by
    refine mul_ii st ?_
    have h1 : (2 : Int).natAbs.log2 < 64 := by decide
    have h2 : (n : Int).natAbs.log2 < 64 := log_lt (by rw [Int.natAbs_natCast]; exact Nat.lt_of_le_of_lt h200 (by decide)) (by decide)
    omega
theorem gcd_t3 (n : Nat) (h200 : n ≤ 200) (st : Store) : rng1M (.int (4 + 2 * (n : Int))) st = .ok (rngD 0 (4 + 2 * (n : Int)).toNat) st := rng1_i (j := 4 + 2 * (n : Int)) st (by omega)
theorem gcd_t4 (n : Nat) : (rngD 0 (4 + 2 * (n : Int)).toNat).length = 4 + 2 * n := by rw [rngD_len]; omega
theorem gcd_t5 (x y : Int) (n : Nat) (l : List D) (st : Store) (hbits : bitsM (.int y) st = .ok (.val (.int (n : Nat))) st) (hmul : mulM (.int 2) (.int (n : Int)) st = .ok (.val (.int (2 * (n : Int)))) st) (hr : rng1M (.int (4 + 2 * (n : Int))) st = .ok l st) :
    (itR1 (asD (op2 addM (kk (.int 4)) (asD (op2 mulM (kk (.int 2)) (asD (op1 bitsM (asD (op1 intM (vq 1)))))))))) [.val (.int x), .val (.int y), .un] st = .ok l st := by
  simp -implicitDefEqProofs only [ev_itR1, ev_asD, ev_op2, ev_op1, ev_kk, ev_vq, List.getElem?_cons_zero, List.getElem?_cons_succ, bind_ok, int_i, RV.d_val, hbits, hmul, add_ii, hr]
theorem bits_i (i : Int) (st : Store) : bitsM (.int i) st = .ok (.val (.int (Builtin.Int.intBits i : Nat))) st := rfl
theorem gcd_t6 (x y z : Int) (s : Slot) (st : Store) : (sRet (asR (vr 0))) [.val (.int x), .val (.int y), s] st = .ret (.val (.int x)) st := by
  simp only [ev_sRet, ev_asR, ev_vr, List.getElem?_cons_zero, bind_ok, onR_ok]
theorem gcd_body {a b : Int} (st : Store) (n : Nat) (hn : Builtin.Int.intBits (b.natAbs : Int) = n) (h200 : n ≤ 200) (hlt : b.natAbs < 2 ^ n) : fGcdL [.int a, .int b] st = .ok (.val (.int ((Nat.gcd a.natAbs b.natAbs : Nat) : Int))) st := by
  have hs : startE [("one" : Str), ("two" : Str), ("lap" : Str)] [.int a, .int b] = [.val (.int a), .val (.int b), .un] := rfl
  have hbits := bits_i (b.natAbs : Int) st
  rw [hn] at hbits
  have hlen := gcd_t4 n
  have hr := gcd_t3 n h200 st
  generalize rngD 0 (4 + 2 * (n : Int)).toNat = l at hlen hr
  obtain ⟨s', hl⟩ := gcd_loop n l a.natAbs b.natAbs .un st hlt (by omega)
  unfold fGcdL
  unfold sGcd
  rw [ev_runF, hs, ev_sSeq, gcd_t1, seq_nx, ev_sSeq, ev_sFor, gcd_t5 _ _ n l st hbits (gcd_t2 n h200 st) hr, onR_ok, hl, seq_nx, gcd_t6 _ _ 0, out_ret]
theorem gcd_ok {a b : Int} (st : Store) (hb : b.natAbs < 2 ^ 200) : fGcdL [.int a, .int b] st = .ok (.val (.int ((Nat.gcd a.natAbs b.natAbs : Nat) : Int))) st :=
  gcd_body st _ rfl (bits_le (by rw [Int.natAbs_natCast]; exact hb)) (by have := bits_lt (b.natAbs : Int); rw [Int.natAbs_natCast] at this; exact this)
/-! ### list comprehensions, reckoned -/
theorem ev_compE (q : Ev → M (List D)) (T : Tg) (t : Ev → M Bool) (f : Ev → M D) (vs : List Nat) {ρ : Ev} {st : Store} : compE q T t f vs ρ st = (q ρ st).bind fun ds s => if lineOk ds.length then (lcM (lcB T t f (wipeE ρ vs)) ds s).bind fun ys s' => .ok (.own ys) s' else .stuck := by
  unfold compE
  rw [m_bind]
  congr 1
  funext ds s
  split <;> rfl
theorem lcM_nil (bd : D → M (Option D)) (st : Store) : lcM bd [] st = .ok [] st := rfl
theorem lcM_cons (bd : D → M (Option D)) (d : D) (r : List D) (st : Store) : lcM bd (d :: r) st = (bd d st).bind fun o s => (lcM bd r s).bind fun ys s' => .ok (oCons o ys) s' := by
  rw [lcM, m_bind]
  congr 1
/-- each item gives the value, the store stays -/
theorem lcM_all {bd : D → M (Option D)} {v : D} {st : Store} : ∀ {l : List D}, (∀ d ∈ l, bd d st = .ok (some v) st) → lcM bd l st = .ok (l.map fun _ => v) st
  | [], _ => rfl
  | d :: l, h => by
    rw [lcM_cons, h d (by simp)]
    show ((lcM bd l st).bind fun ys s' => .ok (oCons (some v) ys) s') = _
    rw [lcM_all fun x hx => h x (by simp [hx])]
    rfl
theorem lcB_val {T : Tg} {f : Ev → M D} {ρ ρ' : Ev} {d v : D} {st st' : Store} (h : T.put d ρ = some ρ') (e : f ρ' st = .ok v st') : lcB T (fun _ => pure true) f ρ d st = .ok (some v) st' := by
  unfold lcB
  rw [h]
  show noRz (do let y ← f ρ'; pure (some y)) st = _
  unfold noRz
  rw [m_bind, e]
  rfl
theorem all_true {α : Type} (l : List α) (st : Store) : allM (.lst (l.map fun _ => D.bl true)) st = .ok (.val (.bl true)) st := by
  have : ∀ l : List α, blsO (l.map fun _ => D.bl true) = some (l.map fun _ => true) := fun l => by
    induction l with
    | nil => rfl
    | cons a l ih => simp [blsO, ih]
  have e : allM (.lst (l.map fun _ => D.bl true)) = retB ((l.map fun _ => true).all _root_.id) := by
    show (match blsO (l.map fun _ => D.bl true) with | some bs => retB (bs.all _root_.id) | none => stuck) = _
    rw [this]
  have e2 : (l.map fun _ => true).all _root_.id = true := by simp
  rw [e, e2]
  rfl
end Pen
end Dn

set_option Elab.async false
set_option linter.all false
set_option maxRecDepth 100000
set_option maxHeartbeats 4000000
/-! the law's own pen, draw, pick, gcd: what they give, for every law -/
namespace Dn
open PySem PySem.Spec PyProof.Rows L2
namespace Pa
@[simp] theorem addA_ii (a b : Int) (st : Store) : addA (.int a) (.int b) st = .ok (.val (.int (a + b))) st := rfl
open Pen (penC g_cells g_at g_digits g_count g_fold putR ev_sPut p_at p_digits p_count p_fold PenI PenI.mono ev_celE own_ok)
def dA : SS := (sIf (andT (tstE (op2 eqM (getE "digits" (vr 0)) (kk (.int 0)))) (tstE (op2 ltM (getE "at" (vr 0)) (asD (op1 lenM (getE "cells" (vr 0))))))) (sSeq (sSet 2 (op2 ixM (getE "cells" (vr 0)) (getE "at" (vr 0)))) (sSeq (sPut "at" (vr 0) (asD (op2 addA (getE "at" (vr 0)) (kk (.int 1))))) (sIf (tstE (op2 geM (vq 2) (asD (op2 powM (kk (.int 10)) (kk (.int 18)))))) (sPut "digits" (vr 0) (asD (op2 subM (vq 2) (asD (op2 powM (kk (.int 10)) (kk (.int 18))))))) (sPut "fold" (vr 0) (asD (op2 modM (asD (op1 intM (asD (op2 addA (asD (op2 mulM (getE "fold" (vr 0)) (kk (.int 30727)))) (vq 2))))) (kk (.int 2147483179)))))))) (sNil))
def dB : SS := (sSeq (sIf (tstE (op2 gtM (getE "digits" (vr 0)) (kk (.int 0)))) (sSeq (sSet 3 (op2 modM (asD (op1 intM (getE "digits" (vr 0)))) (vq 1))) (sSeq (sPut "digits" (vr 0) (asD (op2 divM (getE "digits" (vr 0)) (vq 1)))) (sRet (asR (vr 3))))) (sNil)) (sSeq (sSet 4 (op2 addA (asD (op2 addA (getE "fold" (vr 0)) (asD (op2 mulM (getE "count" (vr 0)) (kk (.int 6421)))))) (kk (.int 131)))) (sRet (op2 modM (asD (op2 divM (asD (op1 intM (asD (op2 modM (asD (op2 powM (vq 4) (kk (.int 47)))) (kk (.int 2305843009213693951)))))) (kk (.int 512)))) (vq 1)))))
def sDraw : SS := sSeq (sPut "count" (vr 0) (asD (op2 addA (getE "count" (vr 0)) (kk (.int 1))))) (sSeq dA dB)
def fDraw : List D → M RV := runF [("pen" : Str), ("many" : Str), ("cell" : Str), ("digit" : Str), ("blend" : Str)] sDraw
theorem pow18 (st : Store) : powM (.int 10) (.int 18) st = .ok (.val (.int 1000000000000000000)) st := by
  rw [pow_ii st (by decide)]; rfl
theorem dA_ok {r : Store} {ns : List Int} {a d c f : Int} {m : Slot} (ha : 0 ≤ a) (hd : 0 ≤ d) (hf : 0 ≤ f) (hf2 : f < 2147483179) : ∃ s a' d' f', dA [.val (.cel 0), m, .un, .un, .un] (penC ns a d c f :: r) = .nx [.val (.cel 0), m, s, .un, .un] (penC ns a' d' c f' :: r) ∧ 0 ≤ a' ∧ 0 ≤ d' ∧ 0 ≤ f' ∧ f' < 2147483179 := by
  unfold dA
  by_cases h0 : d = 0
  · subst h0
    by_cases h1 : a < ns.length
    · have hx : (ns.map D.int)[a.toNat]? = some (.int ns[a.toNat]) := by
        rw [List.getElem?_map, List.getElem?_eq_getElem (by omega)]; rfl
      by_cases h2 : (1000000000000000000 : Int) ≤ ns[a.toNat]
      · refine ⟨.val (.int ns[a.toNat]), a + 1, ns[a.toNat] - 1000000000000000000, f, ?_, by omega, by omega, hf, hf2⟩
        simp [h1, ix_l _ ha hx, pow18, h2]
      · refine ⟨.val (.int ns[a.toNat]), a + 1, 0, (f * 30727 + ns[a.toNat]).fmod 2147483179, ?_, by omega, by omega, Int.fmod_nonneg_of_pos _ (by decide), Int.fmod_lt_of_pos _ (by decide)⟩
        have hl : f.natAbs.log2 + (30727 : Int).natAbs.log2 < 1000000 := by
          have h3 : f.natAbs.log2 < 64 := log_lt (by omega) (by decide)
          have h4 : (30727 : Int).natAbs.log2 < 64 := by decide
          omega
        simp [h1, ix_l _ ha hx, pow18, h2, mul_ii _ hl, mod_ii]
    · refine ⟨.un, a, 0, f, ?_, ha, hd, hf, hf2⟩
      simp [h1]
  · refine ⟨.un, a, d, f, ?_, ha, hd, hf, hf2⟩
    simp [h0]
theorem dB_ok {r : Store} {ns : List Int} {a d c f many : Int} {s : Slot} (ha : 0 ≤ a) (hd : 0 ≤ d) (hc : 0 ≤ c) (hc2 : c ≤ 1000001) (hf : 0 ≤ f) (hf2 : f < 2147483179) (hm : 0 < many) (hm2 : many < 2 ^ 64) :
    ∃ k d', (dB [.val (.cel 0), .val (.int many), s, .un, .un] (penC ns a d c f :: r)).out = .ok (.val (.int k)) (penC ns a d' c f :: r) ∧ 0 ≤ k ∧ k < many ∧ 0 ≤ d' := by
  unfold dB
  have hm0 : many ≠ 0 := by omega
  have hml : many.natAbs.log2 < 9000 := by
    have : many.natAbs.log2 < 64 := log_lt (by omega) (by decide)
    omega
  by_cases h0 : 0 < d
  · refine ⟨d.fmod many, d.fdiv many, ?_, Int.fmod_nonneg_of_pos _ hm, Int.fmod_lt_of_pos _ hm, ?_⟩
    · simp [h0, mod_ii _ hm0, div_ii _ hm0 hml]
    · rw [Int.fdiv_eq_ediv_of_nonneg _ (by omega)]
      exact Int.ediv_nonneg hd (by omega)
  · refine ⟨((((f + c * 6421 + 131) ^ 47).fmod 2305843009213693951).fdiv 512).fmod many, d, ?_, Int.fmod_nonneg_of_pos _ hm, Int.fmod_lt_of_pos _ hm, hd⟩
    have hl : c.natAbs.log2 + (6421 : Int).natAbs.log2 < 1000000 := by
      have h3 : c.natAbs.log2 < 64 := log_lt (by omega) (by decide)
      have h4 : (6421 : Int).natAbs.log2 < 64 := by decide
      omega
    have hp : (0 : Int) ≤ 47 ∧ (47 : Int) ≤ 1000000 ∧ (f + c * 6421 + 131).natAbs < 2 ^ 64 := ⟨by decide, by decide, by omega⟩
    simp [h0, mul_ii _ hl, pow_ii _ hp, mod_ii, div_ii _ (show (512 : Int) ≠ 0 by decide) (by decide), mod_ii _ hm0]
theorem draw_ok {r : Store} {ns : List Int} {a d c f many : Int} (ha : 0 ≤ a) (hd : 0 ≤ d) (hc : 0 ≤ c) (hc2 : c ≤ 1000000) (hf : 0 ≤ f) (hf2 : f < 2147483179) (hm : 0 < many) (hm2 : many < 2 ^ 64) :
    ∃ k a' d' f', fDraw [.cel 0, .int many] (penC ns a d c f :: r) = .ok (.val (.int k)) (penC ns a' d' (c + 1) f' :: r) ∧ 0 ≤ k ∧ k < many ∧ 0 ≤ a' ∧ 0 ≤ d' ∧ 0 ≤ f' ∧ f' < 2147483179 := by
  have hs : startE [("pen" : Str), ("many" : Str), ("cell" : Str), ("digit" : Str), ("blend" : Str)] [.cel 0, .int many] = [.val (.cel 0), .val (.int many), .un, .un, .un] := rfl
  obtain ⟨s, a', d', f', h1, h2, h3, h4, h5⟩ := dA_ok (ns := ns) (c := c + 1) (m := .val (.int many)) ha hd hf hf2
  obtain ⟨k, d2, g1, g2, g3, g4⟩ := dB_ok (ns := ns) (s := s) h2 h3 (show 0 ≤ c + 1 by omega) (by omega) h4 h5 hm hm2
  refine ⟨k, a', d2, f', ?_, g2, g3, h2, g4, h4, h5⟩
  unfold fDraw
  unfold sDraw
  rw [ev_runF, hs, ev_sSeq]
  simp only [ev_sPut, ev_asD, ev_op2, ev_getE, ev_vr, ev_kk, bind_ok, List.getElem?_cons_zero, g_count, addA_ii, RV.d_val, onR_ok, p_count, seq_nx]
  rw [ev_sSeq, h1, seq_nx, g1]
theorem draw {r : Store} {n many : Int} {st : Store} (h : PenI r n st) (hn : n ≤ 1000000) (hm : 0 < many) (hm2 : many < 2 ^ 64) : ∃ k st', fDraw [.cel 0, .int many] st = .ok (.val (.int k)) st' ∧ 0 ≤ k ∧ k < many ∧ PenI r (n + 1) st' := by
  obtain ⟨ns, a, d, c, f, rfl, h2, h3, h4, h5, h6, h7⟩ := h
  obtain ⟨k, a', d', f', g1, g2, g3, g4, g5, g6, g7⟩ := draw_ok (ns := ns) h2 h3 h4 (by omega) h6 h7 hm hm2
  exact ⟨k, _, g1, g2, g3, ns, a', d', c + 1, f', rfl, g4, g5, by omega, by omega, g6, g7⟩
def sPick : SS := sRet (op2 ixM (vq 1) (asD (callE 2 fDraw (aC (vr 0) (aC (asD (op1 lenM (vq 1))) (aN))))))
def fPick : List D → M RV := runF [("pen" : Str), ("some" : Str)] sPick
theorem pick {r : Store} {n : Int} {st : Store} {l : List D} (h : PenI r n st) (hn : n ≤ 1000000) (hl : 0 < l.length) (hl2 : l.length < 2 ^ 64) : ∃ (i : Nat) (x : D) (st' : Store), fPick [.cel 0, .lst l] st = .ok (.val x) st' ∧ l[i]? = some x ∧ PenI r (n + 1) st' := by
  obtain ⟨k, st', g1, g2, g3, g4⟩ := draw (many := l.length) h hn (by omega) (by omega)
  have hx : l[k.toNat]? = some l[k.toNat] := List.getElem?_eq_getElem (by omega)
  refine ⟨k.toNat, l[k.toNat], st', ?_, hx, g4⟩
  unfold fPick sPick
  have hs : startE [("pen" : Str), ("some" : Str)] [.cel 0, .lst l] = [.val (.cel 0), .val (.lst l)] := rfl
  rw [ev_runF, hs]
  simp [g1, ix_l _ g2 hx]
def pB : SS := (sSet 1 (op2 modM (asD (op1 intM (asD (op2 addA (asD (op2 mulM (vq 1) (kk (.int 139)))) (vq 2))))) (kk (.int 999999491))))
theorem pen_turn (x z f : Int) (y : D) (s : Slot) (st : Store) (hf : 0 ≤ f) (hf2 : f < 999999491) : pB [.val y, .val (.int f), .val (.int z)] st = .nx [.val y, .val (.int ((f * 139 + z).fmod 999999491)), .val (.int z)] st := by
  have hmul : mulM (.int f) (.int 139) st = .ok (.val (.int (f * 139))) st := by
    refine mul_ii st ?_
    have h1 : (139 : Int).natAbs.log2 < 64 := by decide
    have h2 : f.natAbs.log2 < 64 := log_lt (by omega) (by decide)
    omega
  have hmod : modM (.int (f * 139 + z)) (.int 999999491) st = .ok (.val (.int ((f * 139 + z).fmod 999999491))) st := mod_ii st (by decide)
  unfold pB
  simp -implicitDefEqProofs only [ev_sSet, ev_op2, ev_asD, ev_op1, ev_vq, ev_kk, List.getElem?_cons_zero, List.getElem?_cons_succ, bind_ok, RV.d_val, hmul, addA_ii, int_i, hmod, onR_ok, slot_val, List.length_cons, List.length_nil, List.set_cons_succ, List.set_cons_zero]
  rw [if_pos (by decide)]
theorem pen_loop (y : D) : ∀ (ns : List Int) (f : Int) (s : Slot) (st : Store), 0 ≤ f → f < 999999491 → ∃ f' s', Dn.forM (.nm 2) pB (ns.map D.int) [.val y, .val (.int f), s] st = .nx [.val y, .val (.int f'), s'] st ∧ 0 ≤ f' ∧ f' < 999999491
  | [], f, s, st, h1, h2 => ⟨f, s, rfl, h1, h2⟩
  | n :: ns, f, s, st, h1, h2 => by
    obtain ⟨f', s', g1, g2⟩ := pen_loop y ns ((f * 139 + n).fmod 999999491) (.val (.int n)) st (Int.fmod_nonneg_of_pos _ (by decide)) (Int.fmod_lt_of_pos _ (by decide))
    refine ⟨f', s', ?_, g2⟩
    rw [List.map_cons, Dn.forM]
    simp only [Tg.put, List.length_cons, List.length_nil]
    rw [if_pos (by decide)]
    simp only [List.set_cons_succ, List.set_cons_zero, pen_turn n n f y s st h1 h2, g1]
def sPen : SS := sSeq (sSet 1 (asR (kk (.int 0)))) (sSeq (sFor (itS (vr 0)) (.nm 2) pB) (sRet (asR (celE [("cells" : Str), ("at" : Str), ("digits" : Str), ("count" : Str), ("fold" : Str)] [asD (op1 listM (vq 0)), kk (.int 0), kk (.int 0), kk (.int 0), vr 1]))))
def fPen : List D → M RV := runF [("script" : Str), ("fold" : Str), ("cell" : Str)] sPen
theorem pen_end (ns : List Int) (f : Int) (s : Slot) (h : ns.length ≤ 63) : (sRet (asR (celE [("cells" : Str), ("at" : Str), ("digits" : Str), ("count" : Str), ("fold" : Str)] [asD (op1 listM (vq 0)), kk (.int 0), kk (.int 0), kk (.int 0), vr 1]))) [.val (.scr (ns.map D.int)), .val (.int f), s] [] = .ret (.val (.cel 0)) [penC ns 0 0 0 f] := by
  have hl : listM (.scr (ns.map D.int)) [] = .ok (.own (ns.map D.int)) [] := own_ok [] (by rw [List.length_map]; omega)
  simp -implicitDefEqProofs only [ev_sRet, ev_asR, ev_celE, List.foldr, ev_aC, ev_asD, ev_op1, ev_vq, ev_vr, ev_kk, ev_aN, List.getElem?_cons_zero, List.getElem?_cons_succ, bind_ok, hl, RV.d_own]
  rfl
theorem pen_ok (ns : List Int) (h : ns.length ≤ 63) : ∃ st, fPen [.scr (ns.map D.int)] [] = .ok (.val (.cel 0)) st ∧ PenI [] 0 st := by
  obtain ⟨f, s, g1, g2, g3⟩ := pen_loop (.scr (ns.map D.int)) ns 0 .un [] (by decide) (by decide)
  refine ⟨[penC ns 0 0 0 f], ?_, ns, 0, 0, 0, f, rfl, by decide, by decide, by decide, by decide, g2, by omega⟩
  have hs : startE [("script" : Str), ("fold" : Str), ("cell" : Str)] [.scr (ns.map D.int)] = [.val (.scr (ns.map D.int)), .un, .un] := rfl
  have e1 : (sSet 1 (asR (kk (.int 0)))) [.val (.scr (ns.map D.int)), .un, .un] [] = .nx [.val (.scr (ns.map D.int)), .val (.int 0), .un] [] := rfl
  have e2 : (itS (vr 0)) [.val (.scr (ns.map D.int)), .val (.int 0), .un] [] = .ok (ns.map D.int) [] := rfl
  unfold fPen
  unfold sPen
  rw [ev_runF, hs, ev_sSeq, e1, seq_nx, ev_sSeq, ev_sFor, e2, onR_ok, g1, seq_nx, pen_end ns f s h, out_ret]
/-! ### gcd -/
def gB : SS := (sSeq (sIf (tstE (op2 eqM (vq 1) (kk (.int 0)))) (sBrk) (sNil)) (sPar 0 1 (vr 1) (asD (op2 modM (asD (op1 intM (vq 0))) (vq 1)))))
theorem fmod_nat (x y : Nat) (h : y ≠ 0) : (x : Int).fmod (y : Int) = ((x % y : Nat) : Int) := by
  rw [Int.fmod_eq_emod_of_nonneg _ (by omega)]; rfl
theorem gcd_step (x y : Nat) : Nat.gcd x y = Nat.gcd y (x % y) := by
  rw [Nat.gcd_comm x y, Nat.gcd_rec y x, Nat.gcd_comm]
theorem gcd_stop (d : D) (l : List D) (x : Nat) (s : Slot) (st : Store) : Dn.forM (.nm 2) gB (d :: l) [.val (.int x), .val (.int 0), s] st = .nx [.val (.int x), .val (.int 0), .val d] st := by
  simp [Dn.forM, Tg.put, gB]
theorem gcd_turn (d : D) (l : List D) (x y : Nat) (s : Slot) (st : Store) (h0 : y ≠ 0) : Dn.forM (.nm 2) gB (d :: l) [.val (.int x), .val (.int y), s] st = Dn.forM (.nm 2) gB l [.val (.int y), .val (.int ((x % y : Nat) : Int)), .val d] st := by
  have h0i : (y : Int) ≠ 0 := by omega
  have e1 : gB [.val (.int x), .val (.int y), .val d] st = .nx [.val (.int y), .val (.int ((x % y : Nat) : Int)), .val d] st := by
    unfold gB
    simp [h0, mod_ii _ h0i, fmod_nat x y h0]
  rw [Dn.forM]
  simp only [Tg.put, List.length_cons, List.length_nil]
  rw [if_pos (by decide)]
  simp only [List.set_cons_succ, List.set_cons_zero, e1]
theorem gcd_loop : ∀ (k : Nat) (l : List D) (x y : Nat) (s : Slot) (st : Store), y < 2 ^ k → 2 * k + 1 ≤ l.length → ∃ s', Dn.forM (.nm 2) gB l [.val (.int x), .val (.int y), s] st = .nx [.val (.int (Nat.gcd x y)), .val (.int 0), s'] st
  | k, [], x, y, s, st, hy, hl => by simp at hl
  | k, d :: l, x, y, s, st, hy, hl => by
    by_cases h0 : y = 0
    · subst h0
      exact ⟨.val d, by rw [Nat.gcd_zero_right]; exact gcd_stop d l x s st⟩
    · cases k with
      | zero => omega
      | succ k =>
        rw [gcd_turn d l x y s st h0, gcd_step x y]
        cases l with
        | nil => simp at hl
        | cons d2 l =>
          by_cases h1 : x % y = 0
          · rw [h1, Nat.gcd_zero_right]
            exact ⟨.val d2, gcd_stop d2 l y _ st⟩
          · rw [gcd_turn d2 l y (x % y) _ st h1, gcd_step y (x % y)]
            refine gcd_loop k l (x % y) (y % (x % y)) _ st ?_ (by simp at hl; omega)
            have h2 : x % y < y := Nat.mod_lt _ (by omega)
            have h3 : y % (x % y) < x % y := Nat.mod_lt _ (by omega)
            have h4 : y % (x % y) + (x % y) * (y / (x % y)) = y := Nat.mod_add_div y (x % y)
            have h5 : 1 ≤ y / (x % y) := Nat.div_pos (by omega) (by omega)
            have h6 : x % y ≤ (x % y) * (y / (x % y)) := Nat.le_mul_of_pos_right _ h5
            rw [Nat.pow_succ] at hy
            omega
def sGcd : SS := sSeq (sPar 0 1 (asD (op1 absM (vq 0))) (asD (op1 absM (vq 1)))) (sSeq (sFor (itR1 (asD (op2 addA (kk (.int 4)) (asD (op2 mulM (kk (.int 2)) (asD (op1 bitsM (asD (op1 intM (vq 1)))))))))) (.nm 2) gB) (sRet (asR (vr 0))))
def fGcdL : List D → M RV := runF [("one" : Str), ("two" : Str), ("lap" : Str)] sGcd
theorem gcd_t1 {a b : Int} (st : Store) : (sPar 0 1 (asD (op1 absM (vq 0))) (asD (op1 absM (vq 1)))) [.val (.int a), .val (.int b), .un] st = .nx [.val (.int (a.natAbs : Int)), .val (.int (b.natAbs : Int)), .un] st := by
  have ha : (if a < 0 then -a else a) = (a.natAbs : Int) := by split <;> omega
  have hb' : (if b < 0 then -b else b) = (b.natAbs : Int) := by split <;> omega
  simp [ha, hb']
theorem gcd_t2 (n : Nat) (h200 : n ≤ 10000) (st : Store) : mulM (.int 2) (.int (n : Int)) st = .ok (.val (.int (2 * (n : Int)))) st := by
    refine mul_ii st ?_
    have h1 : (2 : Int).natAbs.log2 < 64 := by decide
    have h2 : (n : Int).natAbs.log2 < 64 := log_lt (by rw [Int.natAbs_natCast]; exact Nat.lt_of_le_of_lt h200 (by decide)) (by decide)
    omega
theorem gcd_t3 (n : Nat) (h200 : n ≤ 10000) (st : Store) : rng1M (.int (4 + 2 * (n : Int))) st = .ok (rngD 0 (4 + 2 * (n : Int)).toNat) st := rng1_i (j := 4 + 2 * (n : Int)) st (by omega)
theorem gcd_t4 (n : Nat) : (rngD 0 (4 + 2 * (n : Int)).toNat).length = 4 + 2 * n := by rw [rngD_len]; omega
theorem gcd_t5 (x y : Int) (n : Nat) (l : List D) (st : Store) (hbits : bitsM (.int y) st = .ok (.val (.int (n : Nat))) st) (hmul : mulM (.int 2) (.int (n : Int)) st = .ok (.val (.int (2 * (n : Int)))) st) (hr : rng1M (.int (4 + 2 * (n : Int))) st = .ok l st) :
    (itR1 (asD (op2 addA (kk (.int 4)) (asD (op2 mulM (kk (.int 2)) (asD (op1 bitsM (asD (op1 intM (vq 1)))))))))) [.val (.int x), .val (.int y), .un] st = .ok l st := by
  simp -implicitDefEqProofs only [ev_itR1, ev_asD, ev_op2, ev_op1, ev_kk, ev_vq, List.getElem?_cons_zero, List.getElem?_cons_succ, bind_ok, int_i, RV.d_val, hbits, hmul, addA_ii, hr]
theorem bits_i (i : Int) (st : Store) : bitsM (.int i) st = .ok (.val (.int (Builtin.Int.intBits i : Nat))) st := rfl
theorem gcd_t6 (x y z : Int) (s : Slot) (st : Store) : (sRet (asR (vr 0))) [.val (.int x), .val (.int y), s] st = .ret (.val (.int x)) st := by
  simp only [ev_sRet, ev_asR, ev_vr, List.getElem?_cons_zero, bind_ok, onR_ok]
theorem gcd_body {a b : Int} (st : Store) (n : Nat) (hn : Builtin.Int.intBits (b.natAbs : Int) = n) (h200 : n ≤ 10000) (hlt : b.natAbs < 2 ^ n) : fGcdL [.int a, .int b] st = .ok (.val (.int ((Nat.gcd a.natAbs b.natAbs : Nat) : Int))) st := by
  have hs : startE [("one" : Str), ("two" : Str), ("lap" : Str)] [.int a, .int b] = [.val (.int a), .val (.int b), .un] := rfl
  have hbits := bits_i (b.natAbs : Int) st
  rw [hn] at hbits
  have hlen := gcd_t4 n
  have hr := gcd_t3 n h200 st
  generalize rngD 0 (4 + 2 * (n : Int)).toNat = l at hlen hr
  obtain ⟨s', hl⟩ := gcd_loop n l a.natAbs b.natAbs .un st hlt (by omega)
  unfold fGcdL
  unfold sGcd
  rw [ev_runF, hs, ev_sSeq, gcd_t1, seq_nx, ev_sSeq, ev_sFor, gcd_t5 _ _ n l st hbits (gcd_t2 n h200 st) hr, onR_ok, hl, seq_nx, gcd_t6 _ _ 0, out_ret]
theorem gcd_ok {a b : Int} (st : Store) (hb : b.natAbs < 2 ^ 10000) : fGcdL [.int a, .int b] st = .ok (.val (.int ((Nat.gcd a.natAbs b.natAbs : Nat) : Int))) st :=
  gcd_body st _ rfl (bits_le (by rw [Int.natAbs_natCast]; exact hb)) (by have := bits_lt (b.natAbs : Int); rw [Int.natAbs_natCast] at this; exact this)
end Pa
end Dn

set_option Elab.async false
set_option linter.all false
set_option maxRecDepth 100000
set_option maxHeartbeats 4000000
/-! told ratios as rational numbers -/
namespace Dn
open PySem PySem.Spec PyProof.Rows L2
namespace Rt
def rt (x : Rat) : D := .tup [.int x.num, .int (x.den : Int)]
def Bd (n : Nat) (x : Rat) : Prop := x.num.natAbs < 2 ^ n ∧ x.den < 2 ^ n
theorem Bd.mono {n m : Nat} {x : Rat} (h : Bd n x) (hn : n ≤ m) : Bd m x :=
  ⟨Nat.lt_of_lt_of_le h.1 (Nat.pow_le_pow_right (by decide) hn), Nat.lt_of_lt_of_le h.2 (Nat.pow_le_pow_right (by decide) hn)⟩
theorem Bd.pos {n : Nat} {x : Rat} (h : Bd n x) : 1 ≤ n := by
  cases n with
  | zero => have := h.2; have := x.den_pos; simp at *; omega
  | succ n => omega
theorem mk_num (t : Int) (d : Nat) (hd : 0 < d) : (mkRat t d).num = t.fdiv ((Nat.gcd t.natAbs d : Nat) : Int) := by
  rw [Rat.num_mkRat, if_neg (by omega), Int.fdiv_eq_ediv_of_nonneg _ (by omega), Nat.gcd_comm]
theorem mk_den (t : Int) (d : Nat) (hd : 0 < d) : ((mkRat t d).den : Int) = ((d : Int)).fdiv ((Nat.gcd t.natAbs d : Nat) : Int) := by
  rw [Rat.den_mkRat, if_neg (by omega), Int.fdiv_eq_ediv_of_nonneg _ (by omega), Nat.gcd_comm]
  rfl
theorem mk_bd {t : Int} {d n : Nat} (hd : 0 < d) (h1 : t.natAbs < 2 ^ n) (h2 : d < 2 ^ n) : Bd n (mkRat t d) := by
  constructor
  · rw [Rat.num_mkRat, if_neg (by omega)]
    have hg : 0 < Nat.gcd d t.natAbs := Nat.gcd_pos_of_pos_left _ hd
    have hdv : ((Nat.gcd d t.natAbs : Nat) : Int) ∣ t := Int.natAbs_dvd_natAbs.mp (by rw [Int.natAbs_natCast]; exact Nat.gcd_dvd_right _ _)
    obtain ⟨q, hq⟩ := hdv
    have e : t / ((Nat.gcd d t.natAbs : Nat) : Int) = q := by
      conv => lhs; arg 1; rw [hq]
      exact Int.mul_ediv_cancel_left _ (by omega)
    rw [e]
    refine Nat.lt_of_le_of_lt ?_ h1
    conv => rhs; rw [hq, Int.natAbs_mul]
    exact Nat.le_mul_of_pos_left _ (by rw [Int.natAbs_natCast]; exact hg)
  · rw [Rat.den_mkRat, if_neg (by omega)]
    exact Nat.lt_of_le_of_lt (Nat.div_le_self _ _) h2
theorem mul_lt {a b n m : Nat} (h1 : a < 2 ^ n) (h2 : b < 2 ^ m) : a * b < 2 ^ (n + m) := by
  rw [Nat.pow_add]
  exact Nat.mul_lt_mul'' h1 h2
theorem Bd.mul {n m : Nat} {x y : Rat} (hx : Bd n x) (hy : Bd m y) : Bd (n + m) (x * y) := by
  rw [Rat.mul_def']
  refine mk_bd (Nat.mul_pos x.den_pos y.den_pos) ?_ (mul_lt hx.2 hy.2)
  rw [Int.natAbs_mul]
  exact mul_lt hx.1 hy.1
theorem Bd.add {n m : Nat} {x y : Rat} (hx : Bd n x) (hy : Bd m y) : Bd (n + m + 1) (x + y) := by
  rw [Rat.add_def']
  refine mk_bd (Nat.mul_pos x.den_pos y.den_pos) ?_ ?_
  · have h1 : (x.num * (y.den : Int)).natAbs < 2 ^ (n + m) := by rw [Int.natAbs_mul, Int.natAbs_natCast]; exact mul_lt hx.1 hy.2
    have h2 : (y.num * (x.den : Int)).natAbs < 2 ^ (n + m) := by rw [Int.natAbs_mul, Int.natAbs_natCast, Nat.add_comm]; exact mul_lt hy.1 hx.2
    have h3 := Int.natAbs_add_le (x.num * (y.den : Int)) (y.num * (x.den : Int))
    rw [Nat.pow_succ]
    omega
  · have := mul_lt hx.2 hy.2
    rw [Nat.pow_succ]
    omega
theorem bd_log {n k : Nat} (h : k < 2 ^ n) (hn : 1 ≤ n) : k.log2 < n := log_lt h hn
theorem Bd.zero : Bd 1 (0 : Rat) := by constructor <;> decide
theorem Bd.one : Bd 1 (1 : Rat) := by constructor <;> decide
/-- what summed, scaled put together -/
theorem rt_add (x y : Rat) : rt (x + y) = rt (mkRat (x.num * (y.den : Int) + y.num * (x.den : Int)) (x.den * y.den)) := by rw [Rat.add_def']
theorem rt_mul (x y : Rat) : rt (x * y) = rt (mkRat (x.num * y.num) (x.den * y.den)) := by rw [Rat.mul_def']
theorem rt_mk (t : Int) (d : Nat) (hd : 0 < d) : rt (mkRat t d) = .tup [.int (t.fdiv ((Nat.gcd t.natAbs d : Nat) : Int)), .int ((d : Int).fdiv ((Nat.gcd t.natAbs d : Nat) : Int))] := by
  unfold rt
  rw [mk_num t d hd, mk_den t d hd]
theorem rt_inj {x y : Rat} (h : rt x = rt y) : x = y := by
  unfold rt at h
  injection h with h
  injection h with h1 h2
  injection h2 with h2 _
  injection h1 with h1
  injection h2 with h2
  exact Rat.ext h1 (by omega)
end Rt
end Dn

set_option Elab.async false
set_option linter.all false
set_option maxRecDepth 100000
set_option maxHeartbeats 4000000
namespace K78
open PySem PySem.Spec PyProof.Rows L2 Dn Dn.Pa Dn.Rt
open Dn.Pen (penC PenI PenI.mono ev_compE lcM_nil lcM_cons lcM_all lcB_val all_true own_ok)
theorem draw_is : f__law_draw = fDraw := rfl
theorem pick_is : f__law_pick = fPick := rfl
theorem pen_is : f__law_pen = fPen := rfl
theorem gcd_is : f__law_gcd = fGcdL := rfl
/-! ### lowest terms -/
section
variable {st : Store} {n m : Nat} {x y : Rat}
theorem gc_ne {t : Int} {d : Nat} (hd : 0 < d) : ((Nat.gcd t.natAbs d : Nat) : Int) ≠ 0 := by
  have := Nat.gcd_pos_of_pos_right t.natAbs hd
  omega
theorem gc_log {t : Int} {d : Nat} (hd : 0 < d) (hB : d < 2 ^ 8999) : ((Nat.gcd t.natAbs d : Nat) : Int).natAbs.log2 < 9000 := by
  have h1 : Nat.gcd t.natAbs d < 2 ^ 8999 := Nat.lt_of_le_of_lt (Nat.le_of_dvd hd (Nat.gcd_dvd_right _ _)) hB
  rw [Int.natAbs_natCast]
  have := bd_log h1 (by decide)
  omega
theorem lowest_rt {t : Int} {d : Nat} (hd : 0 < d) (hB : d < 2 ^ 8999) : f_lowest [.int t, .int (d : Int)] st = .ok (.val (rt (mkRat t d))) st := by
  have hs : startE [("top" : Str), ("bottom" : Str), ("by" : Str)] [.int t, .int (d : Int)] = [.val (.int t), .val (.int (d : Int)), .un] := rfl
  have hp : (0 : Int) < (d : Int) := by omega
  have e1 : (sSet 2 (ifR (tstE (op2 gtM (vq 1) (kk (.int 0)))) (op2 gcdM (vq 0) (vq 1)) (op1 negM (asD (op2 gcdM (vq 0) (vq 1)))))) [.val (.int t), .val (.int (d : Int)), .un] st = .nx [.val (.int t), .val (.int (d : Int)), .val (.int ((Nat.gcd t.natAbs d : Nat) : Int))] st := by
    simp [hd]
  have d1 : divM (.int t) (.int ((Nat.gcd t.natAbs d : Nat) : Int)) st = .ok (.val (.int (t.fdiv ((Nat.gcd t.natAbs d : Nat) : Int)))) st := div_ii st (gc_ne hd) (gc_log hd hB)
  have d2 : divM (.int (d : Int)) (.int ((Nat.gcd t.natAbs d : Nat) : Int)) st = .ok (.val (.int ((d : Int).fdiv ((Nat.gcd t.natAbs d : Nat) : Int)))) st := div_ii st (gc_ne hd) (gc_log hd hB)
  unfold f_lowest S_lowest
  rw [ev_runF, hs, ev_sSeq, e1, seq_nx, rt_mk t d hd]
  simp -implicitDefEqProofs only [ev_sRet, ev_asR, ev_tupE, ev_aC, ev_asD, ev_op2, ev_vq, ev_aN, List.getElem?_cons_zero, List.getElem?_cons_succ, bind_ok, d1, d2, RV.d_val, tup_2, onR_ok, out_ret]
theorem q_rt {t : Int} {d : Nat} (hd : 0 < d) (hB : d < 2 ^ 8999) : f__law_q [.int t, .int (d : Int)] st = .ok (.val (rt (mkRat t d))) st := by
  have hs : startE [("top" : Str), ("bottom" : Str), ("by" : Str)] [.int t, .int (d : Int)] = [.val (.int t), .val (.int (d : Int)), .un] := rfl
  have g : f__law_gcd [.int t, .int (d : Int)] st = .ok (.val (.int ((Nat.gcd t.natAbs d : Nat) : Int))) st := by
    rw [gcd_is, gcd_ok st (by rw [Int.natAbs_natCast]; exact Nat.lt_of_lt_of_le hB (Nat.pow_le_pow_right (by decide) (by decide))), Int.natAbs_natCast]
  have e1 : (sSet 2 (callE 2 f__law_gcd (aC (vr 0) (aC (vr 1) (aN))))) [.val (.int t), .val (.int (d : Int)), .un] st = .nx [.val (.int t), .val (.int (d : Int)), .val (.int ((Nat.gcd t.natAbs d : Nat) : Int))] st := by
    simp [g]
  have e2 : (sFrz [2] (sSet 2 (ifR (tstE (op2 ltM (vq 1) (kk (.int 0)))) (op1 negM (vq 2)) (asR (vr 2))))) [.val (.int t), .val (.int (d : Int)), .val (.int ((Nat.gcd t.natAbs d : Nat) : Int))] st = .nx [.val (.int t), .val (.int (d : Int)), .val (.int ((Nat.gcd t.natAbs d : Nat) : Int))] st := by
    have hn : ¬ ((d : Int) < 0) := by omega
    unfold sFrz
    simp [hn, frzL, frz1]
  have d1 : divM (.int t) (.int ((Nat.gcd t.natAbs d : Nat) : Int)) st = .ok (.val (.int (t.fdiv ((Nat.gcd t.natAbs d : Nat) : Int)))) st := div_ii st (gc_ne hd) (gc_log hd hB)
  have d2 : divM (.int (d : Int)) (.int ((Nat.gcd t.natAbs d : Nat) : Int)) st = .ok (.val (.int ((d : Int).fdiv ((Nat.gcd t.natAbs d : Nat) : Int)))) st := div_ii st (gc_ne hd) (gc_log hd hB)
  unfold f__law_q S__law_q
  rw [ev_runF, hs, ev_sSeq, e1, seq_nx, ev_sSeq, e2, seq_nx, rt_mk t d hd]
  simp -implicitDefEqProofs only [ev_sRet, ev_asR, ev_tupE, ev_aC, ev_asD, ev_op2, ev_vq, ev_aN, List.getElem?_cons_zero, List.getElem?_cons_succ, bind_ok, d1, d2, RV.d_val, tup_2, onR_ok, out_ret]
/-! ### plus and times, the package's and the law's -/
theorem mul_b {a b : Int} {i j : Nat} (h1 : a.natAbs < 2 ^ i) (h2 : b.natAbs < 2 ^ j) (hi : 1 ≤ i) (hj : 1 ≤ j) (h : i + j ≤ 8999) : mulM (.int a) (.int b) st = .ok (.val (.int (a * b))) st := by
  refine mul_ii st ?_
  have := bd_log h1 hi
  have := bd_log h2 hj
  omega
theorem muls (hx : Bd n x) (hy : Bd m y) (h : n + m ≤ 8999) : mulM (.int x.num) (.int (y.den : Int)) st = .ok (.val (.int (x.num * (y.den : Int)))) st ∧ mulM (.int y.num) (.int (x.den : Int)) st = .ok (.val (.int (y.num * (x.den : Int)))) st ∧
    mulM (.int (x.den : Int)) (.int (y.den : Int)) st = .ok (.val (.int ((x.den * y.den : Nat) : Int))) st ∧ mulM (.int x.num) (.int y.num) st = .ok (.val (.int (x.num * y.num))) st :=
  ⟨mul_b hx.1 (by rw [Int.natAbs_natCast]; exact hy.2) hx.pos hy.pos h, mul_b hy.1 (by rw [Int.natAbs_natCast]; exact hx.2) hy.pos hx.pos (by omega),
   by rw [Int.natCast_mul]; exact mul_b (by rw [Int.natAbs_natCast]; exact hx.2) (by rw [Int.natAbs_natCast]; exact hy.2) hx.pos hy.pos h, mul_b hx.1 hy.1 hx.pos hy.pos h⟩
theorem dens (hx : Bd n x) (hy : Bd m y) (h : n + m ≤ 8999) : 0 < x.den * y.den ∧ x.den * y.den < 2 ^ 8999 :=
  ⟨Nat.mul_pos x.den_pos y.den_pos, Nat.lt_of_lt_of_le (mul_lt hx.2 hy.2) (Nat.pow_le_pow_right (by decide) h)⟩
theorem summed_rt (hx : Bd n x) (hy : Bd m y) (h : n + m ≤ 8999) : f_summed [rt x, rt y] st = .ok (.val (rt (x + y))) st := by
  obtain ⟨m1, m2, m3, _⟩ := muls (st := st) hx hy h
  obtain ⟨p1, p2⟩ := dens hx hy h
  have hs : startE [("one" : Str), ("other" : Str)] [rt x, rt y] = [.val (rt x), .val (rt y)] := rfl
  unfold f_summed S_summed
  rw [ev_runF, hs, rt_add]
  simp -implicitDefEqProofs only [ev_sRet, ev_callE, ev_aC, ev_asD, ev_op2, ev_vq, ev_kk, ev_aN, List.getElem?_cons_zero, List.getElem?_cons_succ, bind_ok, rt, ix_t0, ix_t1, RV.d_val, m1, m2, m3, addA_ii, List.length_cons, List.length_nil, Nat.zero_add, Nat.reduceAdd, if_true]
  rw [lowest_rt p1 p2]
  rfl
theorem scaled_rt (hx : Bd n x) (hy : Bd m y) (h : n + m ≤ 8999) : f_scaled [rt x, rt y] st = .ok (.val (rt (x * y))) st := by
  obtain ⟨_, _, m3, m4⟩ := muls (st := st) hx hy h
  obtain ⟨p1, p2⟩ := dens hx hy h
  have hs : startE [("one" : Str), ("other" : Str)] [rt x, rt y] = [.val (rt x), .val (rt y)] := rfl
  unfold f_scaled S_scaled
  rw [ev_runF, hs, rt_mul]
  simp -implicitDefEqProofs only [ev_sRet, ev_callE, ev_aC, ev_asD, ev_op2, ev_vq, ev_kk, ev_aN, List.getElem?_cons_zero, List.getElem?_cons_succ, bind_ok, rt, ix_t0, ix_t1, RV.d_val, m3, m4, List.length_cons, List.length_nil, Nat.zero_add, Nat.reduceAdd, if_true]
  rw [lowest_rt p1 p2]
  rfl
theorem plus_rt (hx : Bd n x) (hy : Bd m y) (h : n + m ≤ 8999) : f__law_plus [rt x, rt y] st = .ok (.val (rt (x + y))) st := by
  obtain ⟨m1, m2, m3, _⟩ := muls (st := st) hx hy h
  obtain ⟨p1, p2⟩ := dens hx hy h
  have hs : startE [("one" : Str), ("two" : Str)] [rt x, rt y] = [.val (rt x), .val (rt y)] := rfl
  unfold f__law_plus S__law_plus
  rw [ev_runF, hs, rt_add]
  simp -implicitDefEqProofs only [ev_sRet, ev_callE, ev_aC, ev_asD, ev_op2, ev_vq, ev_kk, ev_aN, List.getElem?_cons_zero, List.getElem?_cons_succ, bind_ok, rt, ix_t0, ix_t1, RV.d_val, m1, m2, m3, addA_ii, List.length_cons, List.length_nil, Nat.zero_add, Nat.reduceAdd, if_true]
  rw [q_rt p1 p2]
  rfl
theorem times_rt (hx : Bd n x) (hy : Bd m y) (h : n + m ≤ 8999) : f__law_times [rt x, rt y] st = .ok (.val (rt (x * y))) st := by
  obtain ⟨_, _, m3, m4⟩ := muls (st := st) hx hy h
  obtain ⟨p1, p2⟩ := dens hx hy h
  have hs : startE [("one" : Str), ("two" : Str)] [rt x, rt y] = [.val (rt x), .val (rt y)] := rfl
  unfold f__law_times S__law_times
  rw [ev_runF, hs, rt_mul]
  simp -implicitDefEqProofs only [ev_sRet, ev_callE, ev_aC, ev_asD, ev_op2, ev_vq, ev_kk, ev_aN, List.getElem?_cons_zero, List.getElem?_cons_succ, bind_ok, rt, ix_t0, ix_t1, RV.d_val, m3, m4, List.length_cons, List.length_nil, Nat.zero_add, Nat.reduceAdd, if_true]
  rw [q_rt p1 p2]
  rfl
end
end K78

set_option Elab.async false
set_option linter.all false
set_option maxRecDepth 100000
set_option maxHeartbeats 4000000
/-! comprehensions, loops, comparisons over rows of ratios, reckoned -/
namespace Dn
open PySem PySem.Spec PyProof.Rows L2
open Dn.Pen (penC PenI PenI.mono ev_compE lcM_nil lcM_cons lcM_all lcB_val all_true own_ok)
namespace Rt
theorem lcM_map {α : Type} {bd : D → M (Option D)} {st : Store} (g F : α → D) : ∀ {l : List α}, (∀ a ∈ l, bd (g a) st = .ok (some (F a)) st) → lcM bd (l.map g) st = .ok (l.map F) st
  | [], _ => rfl
  | a :: l, h => by
    rw [List.map_cons, lcM_cons, h a (by simp), bind_ok, lcM_map g F fun x hx => h x (by simp [hx])]
    rfl
/-- the pen goes along -/
theorem lcM_pen {α : Type} {bd : D → M (Option D)} {r : Store} {c : Nat} (g : α → D) (R : α → D → Prop) : ∀ (l : List α), (∀ a ∈ l, ∀ (n : Int) (st : Store), PenI r n st → n ≤ 990000 → ∃ d st', bd (g a) st = .ok (some d) st' ∧ R a d ∧ PenI r (n + c) st') →
    ∀ (n : Int) (st : Store), PenI r n st → n + c * l.length ≤ 990000 → ∃ (ps : List (α × D)) (st' : Store), lcM bd (l.map g) st = .ok (ps.map (·.2)) st' ∧ ps.map (·.1) = l ∧ (∀ p ∈ ps, R p.1 p.2) ∧ PenI r (n + c * l.length) st'
  | [], _, n, st, h, hn => ⟨[], st, rfl, rfl, by simp, by simpa using h⟩
  | a :: l, hs, n, st, h, hn => by
    have e : n + (c : Int) * ((a :: l).length : Int) = n + c + c * l.length := by
      rw [List.length_cons, Int.natCast_add, Int.mul_add]; omega
    have hc : (0 : Int) ≤ (c : Int) * (l.length : Int) := Int.mul_nonneg (by omega) (by omega)
    rw [e] at hn
    obtain ⟨d, st1, e1, r1, p1⟩ := hs a (by simp) n st h (by omega)
    obtain ⟨ps, st2, e2, m2, r2, p2⟩ := lcM_pen g R l (fun x hx => hs x (by simp [hx])) (n + c) st1 p1 hn
    refine ⟨(a, d) :: ps, st2, ?_, by rw [List.map_cons, m2], fun p hp => ?_, by rw [e]; exact p2⟩
    · rw [List.map_cons, lcM_cons, e1, bind_ok, e2]
      rfl
    · rcases List.mem_cons.mp hp with rfl | hp
      · exact r1
      · exact r2 p hp
theorem comp_ok {q : Ev → M (List D)} {T : Tg} {t : Ev → M Bool} {f : Ev → M D} {vs : List Nat} {ρ : Ev} {st st1 st2 : Store} {ds ys : List D} (hq : q ρ st = .ok ds st1) (hl : ds.length ≤ 16777216) (h : lcM (lcB T t f (wipeE ρ vs)) ds st1 = .ok ys st2) : compE q T t f vs ρ st = .ok (.own ys) st2 := by
  rw [ev_compE, hq, bind_ok, if_pos (by unfold lineOk; exact decide_eq_true hl), h]
  rfl
theorem tup_ok {l : List D} (st : Store) (h : l.length ≤ 16777216) : tupM l st = .ok (.tup l) st := by
  unfold tupM lineOk
  rw [if_pos (decide_eq_true h)]; rfl
theorem tuple_l {l : List D} (st : Store) (h : l.length ≤ 16777216) : tupleM (.lst l) st = .ok (.val (.tup l)) st := by
  show (do let d ← tupM l; pure (.val d) : M RV) st = _
  rw [m_bind, tup_ok st h]
  rfl
theorem tuple_t {l : List D} (st : Store) : tupleM (.tup l) st = .ok (.val (.tup l)) st := rfl
theorem list_t {l : List D} (st : Store) (h : l.length ≤ 16777216) : listM (.tup l) st = .ok (.own l) st := own_ok st h
theorem list_l {l : List D} (st : Store) (h : l.length ≤ 16777216) : listM (.lst l) st = .ok (.own l) st := own_ok st h
theorem rng_ok (n : Nat) (st : Store) (h : n < 2 ^ 60) : rng1M (.int (n : Int)) st = .ok ((List.range n).map fun (i : Nat) => D.int (i : Int)) st := by
  rw [rng1_i st (by omega)]
  unfold rngD
  simp
/-- a row of ratios -/
def row (xs : List Rat) : D := .tup (xs.map rt)
def rows (xss : List (List Rat)) : D := .tup (xss.map row)
/-! equal things -/
mutual
/-- tuples, lists of ints -/
def D.nice : D → Bool
  | .int _ => true
  | .tup l => D.niceAll l
  | .lst l => D.niceAll l
  | _ => false
def D.niceAll : List D → Bool
  | [] => true
  | d :: r => D.nice d && D.niceAll r
end
mutual
theorem nice_dat : ∀ d : D, D.nice d = true → d.dat = true ∧ d.py.canLay0 = true ∧ d.rd = true
  | .int i, _ => ⟨rfl, rfl, rfl⟩
  | .tup l, h => by
    obtain ⟨h1, h2, h3⟩ := nice_datAll l (by simpa [D.nice] using h)
    exact ⟨by simpa [D.dat] using h1, by simpa [D.py, PyData.canLay0] using h2, by simpa [D.rd] using h3⟩
  | .lst l, h => by
    obtain ⟨h1, h2, h3⟩ := nice_datAll l (by simpa [D.nice] using h)
    exact ⟨by simpa [D.dat] using h1, by simpa [D.py, PyData.canLay0] using h2, by simpa [D.rd] using h3⟩
  | .non, h | .bl _, h | .str _, h | .scr _, h | .dic _, h | .fn _, h | .ty _, h | .cel _, h | .clo _, h | .ins _ _, h => by simp [D.nice] at h
theorem nice_datAll : ∀ l : List D, D.niceAll l = true → D.datAll l = true ∧ PyData.canLayAll0 (D.pyAll l) = true ∧ D.rdAll l = true
  | [], _ => ⟨rfl, rfl, rfl⟩
  | d :: l, h => by
    simp only [D.niceAll, Bool.and_eq_true] at h
    obtain ⟨a1, a2, a3⟩ := nice_dat d h.1
    obtain ⟨b1, b2, b3⟩ := nice_datAll l h.2
    exact ⟨by simp [D.datAll, a1, b1], by simp [D.pyAll, PyData.canLayAll0, a2, b2], by simp [D.rdAll, a3, b3]⟩
end
theorem okE_nice {d : D} (h : D.nice d = true) (hd : d.py.depth ≤ 64) : okE d = true := by
  obtain ⟨h1, h2, _⟩ := nice_dat d h
  unfold okE SeqAt.shaped
  rw [h1, h2, decide_eq_true hd]
  rfl
theorem eqO_refl {d : D} (h : D.nice d = true) (hd : d.py.depth ≤ 64) : eqO d d = some true := by
  have e := okE_nice h hd
  obtain ⟨_, h2, _⟩ := nice_dat d h
  cases d with
  | str x => simp [D.nice] at h
  | _ => simp only [eqO, e, Bool.and_self, if_true, SeqAt.eqv_refl _ h2]
theorem eq_self {d : D} (st : Store) (h : D.nice d = true) (hd : d.py.depth ≤ 64) : eqM d d st = .ok (.val (.bl true)) st := by
  unfold eqM; rw [eqO_refl h hd]; rfl
theorem ne_self {d : D} (st : Store) (h : D.nice d = true) (hd : d.py.depth ≤ 64) : neM d d st = .ok (.val (.bl false)) st := by
  unfold neM; rw [eqO_refl h hd]; rfl
theorem nice_map {α : Type} (g : α → D) (h : ∀ a, D.nice (g a) = true) : ∀ l : List α, D.niceAll (l.map g) = true
  | [] => rfl
  | a :: l => by simp [D.niceAll, h a, nice_map g h l]
theorem nice_rt (x : Rat) : D.nice (rt x) = true := rfl
theorem nice_row (xs : List Rat) : D.nice (row xs) = true := by
  show D.niceAll _ = true
  exact nice_map rt nice_rt xs
theorem nice_rows (xss : List (List Rat)) : D.nice (rows xss) = true := by
  show D.niceAll _ = true
  exact nice_map row nice_row xss
theorem dep_all {α : Type} (g : α → D) (k : Nat) (h : ∀ a, (g a).py.depth ≤ k) : ∀ l : List α, PyData.depthAll (D.pyAll (l.map g)) ≤ k
  | [] => by simp [D.pyAll, PyData.depthAll]
  | a :: l => by
    have := h a
    have := dep_all g k h l
    simp only [List.map_cons, D.pyAll, PyData.depthAll]
    omega
theorem dep_rt (x : Rat) : (rt x).py.depth ≤ 2 := by simp [rt, D.py, D.pyAll, PyData.depth, PyData.depthAll]
theorem dep_row (xs : List Rat) : (row xs).py.depth ≤ 4 := by
  have := dep_all rt 2 dep_rt xs
  simp only [row, D.py, PyData.depth]
  omega
theorem dep_rows (xss : List (List Rat)) : (rows xss).py.depth ≤ 6 := by
  have := dep_all row 4 dep_row xss
  simp only [rows, D.py, PyData.depth]
  omega
theorem ne_row (xs : List Rat) (st : Store) : neM (row xs) (row xs) st = .ok (.val (.bl false)) st := ne_self st (nice_row xs) (Nat.le_trans (dep_row xs) (by decide))
theorem eq_row (xs : List Rat) (st : Store) : eqM (row xs) (row xs) st = .ok (.val (.bl true)) st := eq_self st (nice_row xs) (Nat.le_trans (dep_row xs) (by decide))
theorem ne_rows (xss : List (List Rat)) (st : Store) : neM (rows xss) (rows xss) st = .ok (.val (.bl false)) st := ne_self st (nice_rows xss) (Nat.le_trans (dep_rows xss) (by decide))
theorem ne_rt (x : Rat) (st : Store) : neM (rt x) (rt x) st = .ok (.val (.bl false)) st := ne_self st (nice_rt x) (Nat.le_trans (dep_rt x) (by decide))
/-- is it 0? -/
theorem ne_none (x : Rat) (st : Store) : neM (rt x) (.tup [.int 0, .int 1]) st = .ok (.val (.bl (decide (x ≠ 0)))) st := by
  have e : eqO (rt x) (.tup [.int 0, .int 1]) = some (decide (x = 0)) := by
    have h1 := okE_nice (nice_rt x) (Nat.le_trans (dep_rt x) (by decide))
    have h2 : okE (.tup [.int 0, .int 1]) = true := rfl
    show (if okE (rt x) && okE (.tup [.int 0, .int 1]) then some (PyData.eqv (rt x).py (D.py (.tup [.int 0, .int 1]))) else none) = _
    rw [h1, h2]
    simp only [Bool.and_self, if_true]
    congr 1
    have h3 : PyData.eqv (rt x).py (D.py (.tup [.int 0, .int 1])) = ((x.num == 0) && ((x.den : Int) == 1)) := by
      simp [rt, D.py, D.pyAll, PyData.eqv, PyData.eqvAll]
    rw [h3]
    by_cases hx : x = 0
    · subst hx; rfl
    · have : ¬ (x.num = 0) := fun z => hx (Rat.num_eq_zero.mp z)
      simp [hx, this]
  unfold neM
  rw [e]
  by_cases hx : x = 0
  · subst hx; rfl
  · simp [hx]
/-! ### their texts -/
theorem show_rt {x : Rat} (h : Bd 1900 x) : (rt x).py.showable = true := by
  have h1 := bd_log h.1 (by decide)
  have h2 := bd_log h.2 (by decide)
  simp only [rt, D.py, D.pyAll, PyData.showable, PyData.showableAll, Int.natAbs_natCast, Bool.and_true, Bool.and_eq_true, decide_eq_true_eq]
  omega
theorem show_all {α : Type} (g : α → D) : ∀ l : List α, (∀ a ∈ l, (g a).py.showable = true) → PyData.showableAll (D.pyAll (l.map g)) = true
  | [], _ => rfl
  | a :: l, h => by
    simp only [List.map_cons, D.pyAll, PyData.showableAll, h a (by simp), show_all g l fun x hx => h x (by simp [hx]), Bool.and_self]
theorem cost_all {α : Type} (g : α → D) (c : Nat) : ∀ l : List α, (∀ a ∈ l, (g a).cost ≤ c) → D.costAll (l.map g) ≤ (c + 2) * l.length
  | [], _ => by simp [D.costAll]
  | a :: l, h => by
    have h1 := h a (by simp)
    have h2 := cost_all g c l fun x hx => h x (by simp [hx])
    simp only [List.map_cons, D.costAll, List.length_cons, Nat.mul_add]
    omega
theorem cost_rt (x : Rat) : (rt x).cost ≤ 1300 := by simp [rt, D.cost, D.costAll]
theorem show_row {xs : List Rat} (h : ∀ x ∈ xs, Bd 1900 x) : (row xs).py.showable = true := by
  simp only [row, D.py, PyData.showable]
  exact show_all rt xs fun x hx => show_rt (h x hx)
theorem cost_row {xs : List Rat} (hl : xs.length ≤ 100) : (row xs).cost ≤ 140000 := by
  have := cost_all rt 1300 xs fun x _ => cost_rt x
  simp only [row, D.cost]
  omega
theorem repr_row {xs : List Rat} {st : Store} (h : ∀ x ∈ xs, Bd 1900 x) (hl : xs.length ≤ 100) : reprM (row xs) st = .ok (.val (.str (row xs).py.shown)) st :=
  repr_ok (nice_dat _ (nice_row xs)).2.2 (show_row h) (Nat.le_trans (dep_row xs) (by decide)) (Nat.le_trans (cost_row hl) (by decide))
theorem repr_rows {xss : List (List Rat)} {st : Store} (h : ∀ xs ∈ xss, xs.length ≤ 100 ∧ ∀ x ∈ xs, Bd 1900 x) (hl : xss.length ≤ 100) : reprM (rows xss) st = .ok (.val (.str (rows xss).py.shown)) st := by
  refine repr_ok (nice_dat _ (nice_rows xss)).2.2 ?_ (Nat.le_trans (dep_rows xss) (by decide)) ?_
  · simp only [rows, D.py, PyData.showable]
    exact show_all row xss fun xs hx => show_row (h xs hx).2
  · have := cost_all row 140000 xss fun xs hx => cost_row (h xs hx).1
    simp only [rows, D.cost]
    omega
end Rt
end Dn

set_option Elab.async false
set_option linter.all false
set_option maxRecDepth 100000
set_option maxHeartbeats 4000000
set_option exponentiation.threshold 20000
namespace K78
open PySem PySem.Spec PyProof.Rows L2 Dn Dn.Pa Dn.Rt
open Dn.Pen (penC PenI PenI.mono ev_compE lcM_nil lcM_cons lcM_all lcB_val all_true own_ok)
/-! ### ratios handed over -/
inductive Hd : Rat → D → Prop
  | i {x : Rat} : x.den = 1 → Hd x (.int x.num)
  | t {x : Rat} (k : Nat) : 1 ≤ k → k ≤ 5 → Hd x (.tup [.int (x.num * k), .int (x.den * k : Int)])
  | l {x : Rat} (k : Nat) : 1 ≤ k → k ≤ 5 → Hd x (.lst [.int (x.num * k), .int (x.den * k : Int)])
/-- the tuples that in_tuples makes of it -/
def tupd : D → D
  | .lst l => .tup l
  | d => d
section
variable {st : Store} {n : Nat} {x : Rat} {d : D}
theorem int_7 (p : Int) : f_r7_in_tuples [.int p] st = .ok (.val (.int p)) st := by kernel_rfl
theorem pair_7 (a b : Int) : f_r7_in_tuples [.tup [.int a, .int b]] st = .ok (.val (.tup [.int a, .int b])) st := by kernel_rfl
theorem lpair_7 (a b : Int) : f_r7_in_tuples [.lst [.int a, .int b]] st = .ok (.val (.tup [.int a, .int b])) st := by kernel_rfl
theorem hd_7 (h : Hd x d) : f_r7_in_tuples [d] st = .ok (.val (tupd d)) st := by
  cases h with
  | i _ => exact int_7 _
  | t k _ _ => exact pair_7 _ _
  | l k _ _ => exact lpair_7 _ _
theorem seq_8 {ds : List D} {d : D} (hd : d = .tup ds ∨ d = .lst ds) (hl : ds.length ≤ 16777216) (h : ∀ d ∈ ds, f_r7_in_tuples [d] st = .ok (.val (tupd d)) st) : f_r8_in_tuples [d] st = .ok (.val (.tup (ds.map tupd))) st := by
  have hs : startE [("value" : Str), ("item" : Str)] [d] = [.val d, .un] := rfl
  have hi : isaM ["tuple", "list"] d st = .ok (.val (.bl true)) st := by rcases hd with rfl | rfl <;> rfl
  have hq : (itS (vq 0)) [.val d, .un] st = .ok ds st := by rcases hd with rfl | rfl <;> rfl
  have hc : (compE (itS (vq 0)) (.nm 1) (fun _ => pure true) (asD (callE 1 f_r7_in_tuples (aC (vr 1) (aN)))) [1]) [.val d, .un] st = .ok (.own (ds.map tupd)) st := by
    refine comp_ok hq hl ?_
    have := lcM_map (bd := lcB (.nm 1) (fun _ => pure true) (asD (callE 1 f_r7_in_tuples (aC (vr 1) (aN)))) (wipeE [.val d, .un] [1])) (st := st) _root_.id tupd (l := ds) fun a ha => by
      refine lcB_val (ρ' := [.val d, .val a]) rfl ?_
      simp -implicitDefEqProofs only [ev_asD, ev_callE, ev_aC, ev_vr, ev_aN, List.getElem?_cons_zero, List.getElem?_cons_succ, bind_ok, List.length_cons, List.length_nil, Nat.zero_add, if_true, h a ha, RV.d_val]
    rw [List.map_id] at this
    exact this
  unfold f_r8_in_tuples S_r8_in_tuples
  rw [ev_runF, hs]
  simp -implicitDefEqProofs only [ev_sSeq, ev_sIf, ev_notT, ev_truE, ev_asD, ev_op1, ev_vq, List.getElem?_cons_zero, bind_ok, hi, RV.d_val, tru_b, Bool.not_true, onR_ok, Bool.false_eq_true, if_false, ev_sNil, seq_nx, ev_sRet, hc, RV.d_own, tuple_l st (show (ds.map tupd).length ≤ 16777216 by rw [List.length_map]; exact hl), out_ret]
/-! loose -/
theorem whole_i (p : Int) : f_is_whole [.int p] st = .ok (.val (.bl true)) st := rfl
theorem whole_t (l : List D) : f_is_whole [.tup l] st = .ok (.val (.bl false)) st := rfl
theorem pair_t {p q : Int} (h : 0 < q) : f_is_pair [.tup [.int p, .int q]] st = .ok (.val (.bl true)) st := by
  have hs : startE [("value" : Str)] [.tup [.int p, .int q]] = [.val (.tup [.int p, .int q])] := rfl
  have hi : isaM ["tuple", "list"] (.tup [.int p, .int q]) st = .ok (.val (.bl true)) st := rfl
  unfold f_is_pair S_is_pair
  rw [ev_runF, hs]
  simp [hi, whole_i, h]
theorem loose_i (p : Int) : f_is_loose [.int p] st = .ok (.val (.bl true)) st := by
  have hs : startE [("value" : Str)] [.int p] = [.val (.int p)] := rfl
  unfold f_is_loose S_is_loose
  rw [ev_runF, hs]
  simp [whole_i]
theorem loose_t {p q : Int} (h : 0 < q) : f_is_loose [.tup [.int p, .int q]] st = .ok (.val (.bl true)) st := by
  have hs : startE [("value" : Str)] [.tup [.int p, .int q]] = [.val (.tup [.int p, .int q])] := rfl
  have hi : isaM ["tuple"] (.tup [.int p, .int q]) st = .ok (.val (.bl true)) st := rfl
  unfold f_is_loose S_is_loose
  rw [ev_runF, hs]
  simp [whole_t, hi, pair_t h]
theorem told_i (p : Int) : f_told_ratio [.int p] st = .ok (.val (.tup [.int p, .int 1])) st := by
  have hs : startE [("value" : Str)] [.int p] = [.val (.int p)] := rfl
  unfold f_told_ratio S_told_ratio
  rw [ev_runF, hs]
  simp [whole_i]
theorem told_t {p : Int} {q : Nat} (h : 0 < q) (hB : q < 2 ^ 8999) : f_told_ratio [.tup [.int p, .int (q : Int)]] st = .ok (.val (rt (mkRat p q))) st := by
  have hs : startE [("value" : Str)] [.tup [.int p, .int (q : Int)]] = [.val (.tup [.int p, .int (q : Int)])] := rfl
  unfold f_told_ratio S_told_ratio
  rw [ev_runF, hs]
  simp [whole_t, lowest_rt h hB]
theorem mk_by (x : Rat) (k : Nat) (hk : 1 ≤ k) : mkRat (x.num * k) (x.den * k) = x := by
  rw [Rat.mkRat_mul_right (by omega)]
  exact Rat.mkRat_self x
theorem hd_loose (h : Hd x d) : f_is_loose [tupd d] st = .ok (.val (.bl true)) st := by
  have hp := x.den_pos
  cases h with
  | i _ => exact loose_i _
  | t k h1 _ => exact loose_t (Int.mul_pos (by omega) (by omega))
  | l k h1 _ => exact loose_t (Int.mul_pos (by omega) (by omega))
theorem hd_told (h : Hd x d) (hb : Bd n x) (hn : n ≤ 8900) : f_told_ratio [tupd d] st = .ok (.val (rt x)) st := by
  have hk : ∀ k : Nat, 1 ≤ k → k ≤ 5 → f_told_ratio [.tup [.int (x.num * k), .int (x.den * k : Int)]] st = .ok (.val (rt x)) st := fun k h1 h2 => by
    have e : ((x.den : Int) * (k : Int)) = ((x.den * k : Nat) : Int) := by rw [Int.natCast_mul]
    rw [e, told_t (Nat.mul_pos x.den_pos (by omega)) ?_, mk_by x k h1]
    refine Nat.lt_of_lt_of_le (mul_lt hb.2 (show k < 2 ^ 3 by omega)) (Nat.pow_le_pow_right (by decide) (by omega))
  cases h with
  | i h1 =>
    show f_told_ratio [.int x.num] st = _
    rw [told_i]
    unfold rt
    rw [h1]
    rfl
  | t k h1 h2 => exact hk k h1 h2
  | l k h1 h2 => exact hk k h1 h2
end
/-- a row of ratios, as it may be handed over -/
def Gv (xs : List Rat) (d : D) : Prop := ∃ ps : List (Rat × D), ps.map (·.1) = xs ∧ (∀ p ∈ ps, Hd p.1 p.2) ∧ (d = .tup (ps.map (·.2)) ∨ d = .lst (ps.map (·.2)))
theorem gv_row (xs : List Rat) : Gv xs (row xs) := by
  refine ⟨xs.map fun x => (x, rt x), by rw [List.map_map]; exact (List.map_congr_left fun _ _ => rfl).trans (List.map_id xs), fun p hp => ?_, .inl (by unfold row; rw [List.map_map]; rfl)⟩
  obtain ⟨x, _, rfl⟩ := List.mem_map.mp hp
  have := Hd.t (x := x) 1 (by decide) (by decide)
  simpa [rt] using this
section
variable {st : Store} {n : Nat} {xs : List Rat} {d : D}
theorem gv_len (h : Gv xs d) : ∃ ds, (d = .tup ds ∨ d = .lst ds) ∧ ds.length = xs.length := by
  obtain ⟨ps, h1, h2, h3⟩ := h
  exact ⟨_, h3, by rw [← h1]; simp⟩
theorem loose_row_rt (ps : List (Rat × D)) (hl : ps.length ≤ 16777216) (hh : ∀ p ∈ ps, Hd p.1 p.2) (hb : ∀ p ∈ ps, Bd n p.1) (hn : n ≤ 8900) : f_loose_row [.tup (ps.map fun p => tupd p.2)] st = .ok (.val (row (ps.map (·.1)))) st := by
  have hs : startE [("value" : Str), ("item" : Str)] [.tup (ps.map fun p => tupd p.2)] = [.val (.tup (ps.map fun p => tupd p.2)), .un] := rfl
  have hi : isaM ["tuple"] (.tup (ps.map fun p => tupd p.2)) st = .ok (.val (.bl true)) st := rfl
  have hq : (itS (vq 0)) [.val (.tup (ps.map fun p => tupd p.2)), .un] st = .ok (ps.map fun p => tupd p.2) st := rfl
  have c1 : (compE (itS (vq 0)) (.nm 1) (fun _ => pure true) (asD (callE 1 f_is_loose (aC (vr 1) (aN)))) [1]) [.val (.tup (ps.map fun p => tupd p.2)), .un] st = .ok (.own (ps.map fun _ => D.bl true)) st := by
    refine comp_ok hq (by rw [List.length_map]; exact hl) ?_
    refine lcM_map (fun p : Rat × D => tupd p.2) (fun _ => D.bl true) fun p hp => lcB_val (ρ' := [.val (.tup (ps.map fun p => tupd p.2)), .val (tupd p.2)]) rfl ?_
    simp -implicitDefEqProofs only [ev_asD, ev_callE, ev_aC, ev_vr, ev_aN, List.getElem?_cons_zero, List.getElem?_cons_succ, bind_ok, List.length_cons, List.length_nil, Nat.zero_add, if_true, hd_loose (hh p hp), RV.d_val]
  have c2 : (compE (itS (vq 0)) (.nm 1) (fun _ => pure true) (asD (callE 1 f_told_ratio (aC (vr 1) (aN)))) [1]) [.val (.tup (ps.map fun p => tupd p.2)), .un] st = .ok (.own (ps.map fun p => rt p.1)) st := by
    refine comp_ok hq (by rw [List.length_map]; exact hl) ?_
    refine lcM_map (fun p : Rat × D => tupd p.2) (fun p => rt p.1) fun p hp => lcB_val (ρ' := [.val (.tup (ps.map fun p => tupd p.2)), .val (tupd p.2)]) rfl ?_
    simp -implicitDefEqProofs only [ev_asD, ev_callE, ev_aC, ev_vr, ev_aN, List.getElem?_cons_zero, List.getElem?_cons_succ, bind_ok, List.length_cons, List.length_nil, Nat.zero_add, if_true, hd_told (hh p hp) (hb p hp) hn, RV.d_val]
  have e : (row (ps.map (·.1))) = .tup (ps.map fun p => rt p.1) := by simp [row]
  unfold f_loose_row S_loose_row
  rw [ev_runF, hs, e]
  simp -implicitDefEqProofs only [ev_sSeq, ev_sIf, ev_orT, ev_notT, ev_truE, ev_asD, ev_op1, ev_vq, List.getElem?_cons_zero, bind_ok, hi, c1, c2, RV.d_val, RV.d_own, tru_b, all_true, Bool.not_true, onR_ok, Bool.false_eq_true, if_false, ev_sNil, seq_nx, ev_sRet, tuple_l st (show (ps.map fun p => rt p.1).length ≤ 16777216 by rw [List.length_map]; exact hl), out_ret]
theorem row_from_rt (h : Gv xs d) (hb : ∀ x ∈ xs, Bd n x) (hn : n ≤ 8900) {lo hi : Nat} (h1 : lo ≤ xs.length) (h2 : xs.length ≤ hi) (h3 : xs.length ≤ 16777216) : f_row_from [d, .int (lo : Int), .int (hi : Int)] st = .ok (.val (row xs)) st := by
  obtain ⟨ps, e1, hh, hd⟩ := h
  subst e1
  have hpl : ps.length ≤ 16777216 := by simpa using h3
  have i8 : f_r8_in_tuples [d] st = .ok (.val (.tup (ps.map fun p => tupd p.2))) st := by
    have := seq_8 (st := st) hd (by rw [List.length_map]; exact hpl) fun y hy => by
      obtain ⟨p, hp, rfl⟩ := List.mem_map.mp hy
      exact hd_7 (hh p hp)
    rw [List.map_map] at this
    exact this
  have lr := loose_row_rt (st := st) ps hpl hh (fun p hp => hb _ (List.mem_map_of_mem hp)) hn
  have hs : startE [("row" : Str), ("least" : Str), ("most" : Str), ("made" : Str)] [d, .int (lo : Int), .int (hi : Int)] = [.val d, .val (.int (lo : Int)), .val (.int (hi : Int)), .un] := rfl
  have ln : lenM (row (ps.map (·.1))) st = .ok (.val (.int ((ps.map (·.1)).length : Int))) st := by
    show Res.ok _ _ = _
    simp [row]
  have isn : isM (row (ps.map (·.1))) .non st = .ok (.val (.bl false)) st := rfl
  have a1 : decide ((lo : Int) ≤ ((ps.map (·.1)).length : Int)) = true := decide_eq_true (by omega)
  have a2 : decide (((ps.map (·.1)).length : Int) ≤ (hi : Int)) = true := decide_eq_true (by omega)
  unfold f_row_from S_row_from
  rw [ev_runF, hs]
  simp -implicitDefEqProofs only [ev_sSeq, ev_sSet, ev_callE, ev_aC, ev_aN, ev_vr, ev_asD, ev_vq, List.getElem?_cons_zero, List.getElem?_cons_succ, bind_ok, List.length_cons, List.length_nil, Nat.zero_add, Nat.reduceAdd, if_true, i8, RV.d_val, lr, onR_ok, slot_val, List.set_cons_succ, List.set_cons_zero]
  rw [if_pos (by decide), seq_nx]
  simp -implicitDefEqProofs only [ev_sSeq, ev_sIf, ev_orT, ev_tstE, ev_op2, ev_op1, ev_kk, ev_notT, ev_chn, ev_asD, ev_vq, List.getElem?_cons_zero, List.getElem?_cons_succ, bind_ok, isn, bl_ok, Bool.false_eq_true, if_false, ln, RV.d_val, le_ii, a1, a2, if_true, Bool.not_true, onR_ok, ev_sNil, seq_nx]
  rfl
end
end K78

set_option Elab.async false
set_option linter.all false
set_option maxRecDepth 100000
set_option maxHeartbeats 4000000
set_option exponentiation.threshold 20000
namespace K78
open PySem PySem.Spec PyProof.Rows L2 Dn Dn.Pa Dn.Rt
open Dn.Pen (penC PenI PenI.mono ev_compE lcM_nil lcM_cons lcM_all lcB_val all_true own_ok)
def h0 : SS := sIf (andT (tstE (op2 eqM (asD (op2 ixM (vq 1) (kk (.int 1)))) (kk (.int 1)))) (tstE (op2 eqM (asD (callE 2 f__law_draw (aC (vr 0) (aC (kk (.int 2)) (aN))))) (kk (.int 0))))) (sRet (op2 ixM (vq 1) (kk (.int 0)))) (sNil)
def h1 : SS := sSet 2 (callE 2 f__law_pick (aC (vr 0) (aC (asD (lstE (aC (kk (.int 1)) (aC (kk (.int 1)) (aC (kk (.int 2)) (aC (kk (.int 5)) (aN))))))) (aN))))
def h2 : SS := sRet (callE 2 f__law_pick (aC (vr 0) (aC (asD (lstE (aC (tupE (aC (asD (op2 mulM (asD (op2 ixM (vq 1) (kk (.int 0)))) (vq 2))) (aC (asD (op2 mulM (asD (op2 ixM (vq 1) (kk (.int 1)))) (vq 2))) (aN)))) (aC (asD (lstE (aC (asD (op2 mulM (asD (op2 ixM (vq 1) (kk (.int 0)))) (vq 2))) (aC (asD (op2 mulM (asD (op2 ixM (vq 1) (kk (.int 1)))) (vq 2))) (aN))))) (aN))))) (aN))))
theorem handed_eq : S__law_handed = sSeq h0 (sSeq h1 h2) := rfl
section
variable {r : Store} {st : Store} {n : Nat} {k : Int} {x : Rat}
theorem one_of {l : List D} {i : Nat} {y : D} (h : l[i]? = some y) : y ∈ l := List.mem_of_getElem? h
theorem hand_tail (hb : Bd n x) (hn : n ≤ 8000) (h : PenI r k st) (hk : k ≤ 995000) : ∃ d st', ((sSeq h1 h2) [.val (.cel 0), .val (rt x), .un] st).out = .ok (.val d) st' ∧ Hd x d ∧ PenI r (k + 2) st' := by
  obtain ⟨i, y, st1, e1, m1, q1⟩ := pick (l := [.int 1, .int 1, .int 2, .int 5]) h (by omega) (by decide) (by decide)
  have hy := one_of m1
  simp only [List.mem_cons, List.not_mem_nil, or_false] at hy
  obtain ⟨b, hb1, hb2, rfl⟩ : ∃ b : Nat, 1 ≤ b ∧ b ≤ 5 ∧ y = .int (b : Int) := by
    rcases hy with rfl | rfl | rfl | rfl
    · exact ⟨1, by decide, by decide, rfl⟩
    · exact ⟨1, by decide, by decide, rfl⟩
    · exact ⟨2, by decide, by decide, rfl⟩
    · exact ⟨5, by decide, by decide, rfl⟩
  have bn : ((b : Int)).natAbs < 2 ^ 3 := by rw [Int.natAbs_natCast]; omega
  have mn : ∀ st, mulM (.int x.num) (.int (b : Int)) st = .ok (.val (.int (x.num * b))) st := fun st => mul_b hb.1 bn hb.pos (by decide) (by omega)
  have md : ∀ st, mulM (.int (x.den : Int)) (.int (b : Int)) st = .ok (.val (.int ((x.den : Int) * b))) st := fun st => mul_b (by rw [Int.natAbs_natCast]; exact hb.2) bn hb.pos (by decide) (by omega)
  obtain ⟨j, z, st2, e2, m2, q2⟩ := pick (l := [.tup [.int (x.num * b), .int ((x.den : Int) * b)], .lst [.int (x.num * b), .int ((x.den : Int) * b)]]) q1 (by omega) (by simp) (by simp)
  have hz := one_of m2
  simp only [List.mem_cons, List.not_mem_nil, or_false] at hz
  rw [← pick_is] at e1 e2
  refine ⟨z, st2, ?_, ?_, q2.mono (by omega)⟩
  · have l1 : (lstE (aC (kk (.int 1)) (aC (kk (.int 1)) (aC (kk (.int 2)) (aC (kk (.int 5)) (aN)))))) [.val (.cel 0), .val (rt x), .un] st = .ok (.own [.int 1, .int 1, .int 2, .int 5]) st := rfl
    have w1 : h1 [.val (.cel 0), .val (rt x), .un] st = .nx [.val (.cel 0), .val (rt x), .val (.int (b : Int))] st1 := by
      unfold h1
      simp -implicitDefEqProofs only [ev_sSet, ev_callE, ev_aC, ev_vr, ev_asD, ev_aN, l1, List.getElem?_cons_zero, List.getElem?_cons_succ, bind_ok, RV.d_own, RV.d_val, List.length_cons, List.length_nil, Nat.zero_add, Nat.reduceAdd, if_true, e1, onR_ok, slot_val, List.set_cons_succ, List.set_cons_zero]
      rw [if_pos (by decide)]
    have o2 : ∀ (a b : D) st, ownM [a, b] st = .ok (.own [a, b]) st := fun _ _ _ => rfl
    have w2 : h2 [.val (.cel 0), .val (rt x), .val (.int (b : Int))] st1 = .ret (.val z) st2 := by
      unfold h2
      simp -implicitDefEqProofs only [ev_sRet, ev_callE, ev_aC, ev_vr, ev_vq, ev_kk, ev_asD, ev_op2, ev_tupE, ev_lstE, ev_aN, rt, ix_t0, ix_t1, mn, md, tup_2, o2, List.getElem?_cons_zero, List.getElem?_cons_succ, bind_ok, RV.d_own, RV.d_val, List.length_cons, List.length_nil, Nat.zero_add, Nat.reduceAdd, if_true, e2, onR_ok]
    rw [ev_sSeq, w1, seq_nx, w2, out_ret]
  · rcases hz with rfl | rfl
    · exact .t b hb1 hb2
    · exact .l b hb1 hb2
theorem handed_ok (hb : Bd n x) (hn : n ≤ 8000) (h : PenI r k st) (hk : k ≤ 990000) : ∃ d st', f__law_handed [.cel 0, rt x] st = .ok (.val d) st' ∧ Hd x d ∧ PenI r (k + 3) st' := by
  have hs : startE [("pen" : Str), ("ratio" : Str), ("by" : Str)] [.cel 0, rt x] = [.val (.cel 0), .val (rt x), .un] := rfl
  by_cases h1 : x.den = 1
  · obtain ⟨v, st1, e1, v0, v1, q1⟩ := draw (many := 2) h (by omega) (by decide) (by decide)
    rw [← draw_is] at e1
    by_cases hv : v = 0
    · subst hv
      refine ⟨.int x.num, st1, ?_, .i h1, q1.mono (by omega)⟩
      have w : h0 [.val (.cel 0), .val (rt x), .un] st = .ret (.val (.int x.num)) st1 := by
        unfold h0
        simp -implicitDefEqProofs only [ev_sIf, ev_andT, ev_tstE, ev_op2, ev_asD, ev_vq, ev_vr, ev_kk, ev_callE, ev_aC, ev_aN, rt, ix_t0, ix_t1, h1, Int.natCast_one, List.getElem?_cons_zero, List.getElem?_cons_succ, bind_ok, RV.d_val, eq_ii, bl_ok, beq_self_eq_true, if_true, List.length_cons, List.length_nil, Nat.zero_add, Nat.reduceAdd, e1, onR_ok, ev_sRet]
      unfold f__law_handed
      rw [ev_runF, hs, handed_eq, ev_sSeq, w, seq_ret, out_ret]
    · obtain ⟨d, st2, e2, r2, q2⟩ := hand_tail hb hn q1 (by omega)
      refine ⟨d, st2, ?_, r2, q2.mono (by omega)⟩
      have nv : (v == 0) = false := by simpa using hv
      have w : h0 [.val (.cel 0), .val (rt x), .un] st = .nx [.val (.cel 0), .val (rt x), .un] st1 := by
        unfold h0
        simp -implicitDefEqProofs only [ev_sIf, ev_andT, ev_tstE, ev_op2, ev_asD, ev_vq, ev_vr, ev_kk, ev_callE, ev_aC, ev_aN, rt, ix_t0, ix_t1, h1, Int.natCast_one, List.getElem?_cons_zero, List.getElem?_cons_succ, bind_ok, RV.d_val, eq_ii, bl_ok, beq_self_eq_true, if_true, List.length_cons, List.length_nil, Nat.zero_add, Nat.reduceAdd, e1, nv, onR_ok, Bool.false_eq_true, if_false, ev_sNil]
      unfold f__law_handed
      rw [ev_runF, hs, handed_eq, ev_sSeq, w, seq_nx, e2]
  · obtain ⟨d, st2, e2, r2, q2⟩ := hand_tail hb hn h (by omega)
    refine ⟨d, st2, ?_, r2, q2.mono (by omega)⟩
    have nv : ((x.den : Int) == 1) = false := by
      have : ¬ ((x.den : Int) = 1) := by omega
      simpa using this
    have w : h0 [.val (.cel 0), .val (rt x), .un] st = .nx [.val (.cel 0), .val (rt x), .un] st := by
      unfold h0
      simp -implicitDefEqProofs only [ev_sIf, ev_andT, ev_tstE, ev_op2, ev_asD, ev_vq, ev_vr, ev_kk, ev_callE, ev_aC, ev_aN, rt, ix_t0, ix_t1, List.getElem?_cons_zero, List.getElem?_cons_succ, bind_ok, RV.d_val, eq_ii, bl_ok, nv, onR_ok, Bool.false_eq_true, if_false, ev_sNil]
    unfold f__law_handed
    rw [ev_runF, hs, handed_eq, ev_sSeq, w, seq_nx, e2]
/-! a row handed over -/
theorem passed_ok {ds : List D} (hl : ds.length ≤ 16777216) (h : PenI r k st) (hk : k ≤ 990000) : ∃ d st', f__law_passed [.cel 0, .lst ds] st = .ok (.val d) st' ∧ (d = .tup ds ∨ d = .lst ds) ∧ PenI r (k + 1) st' := by
  obtain ⟨i, y, st1, e1, m1, q1⟩ := pick (l := [.tup ds, .lst ds]) h (by omega) (by simp) (by simp)
  rw [← pick_is] at e1
  have hy := one_of m1
  simp only [List.mem_cons, List.not_mem_nil, or_false] at hy
  refine ⟨y, st1, ?_, hy, q1⟩
  have hs : startE [("pen" : Str), ("row" : Str)] [.cel 0, .lst ds] = [.val (.cel 0), .val (.lst ds)] := rfl
  have o2 : ∀ (a b : D) st, ownM [a, b] st = .ok (.own [a, b]) st := fun _ _ _ => rfl
  unfold f__law_passed S__law_passed
  rw [ev_runF, hs]
  simp -implicitDefEqProofs only [ev_sRet, ev_callE, ev_aC, ev_vr, ev_vq, ev_asD, ev_op1, ev_lstE, ev_aN, List.getElem?_cons_zero, List.getElem?_cons_succ, bind_ok, RV.d_own, RV.d_val, tuple_l st hl, list_l st hl, o2, List.length_cons, List.length_nil, Nat.zero_add, Nat.reduceAdd, if_true, e1, onR_ok, out_ret]
theorem given_ok {xs : List Rat} (hb : ∀ x ∈ xs, Bd n x) (hn : n ≤ 8000) (hl : xs.length ≤ 1000) (h : PenI r k st) (hk : k ≤ 900000) : ∃ d st', f__law_given_row [.cel 0, row xs] st = .ok (.val d) st' ∧ Gv xs d ∧ PenI r (k + (3 * xs.length + 1)) st' := by
  have hs : startE [("pen" : Str), ("row" : Str), ("item" : Str)] [.cel 0, row xs] = [.val (.cel 0), .val (row xs), .un] := rfl
  have hq : (itS (vq 1)) [.val (.cel 0), .val (row xs), .un] st = .ok (xs.map rt) st := rfl
  obtain ⟨ps, st1, e1, m1, r1, q1⟩ := lcM_pen (bd := lcB (.nm 2) (fun _ => pure true) (asD (callE 2 f__law_handed (aC (vr 0) (aC (vr 2) (aN))))) (wipeE [.val (.cel 0), .val (row xs), .un] [2])) (r := r) (c := 3) rt Hd xs (fun a ha n' st' p' hn' => by
    obtain ⟨d, st2, e, hd, p2⟩ := handed_ok (hb a ha) hn p' hn'
    refine ⟨d, st2, lcB_val (ρ' := [.val (.cel 0), .val (row xs), .val (rt a)]) rfl ?_, hd, p2⟩
    simp -implicitDefEqProofs only [ev_asD, ev_callE, ev_aC, ev_vr, ev_aN, List.getElem?_cons_zero, List.getElem?_cons_succ, bind_ok, List.length_cons, List.length_nil, Nat.zero_add, Nat.reduceAdd, if_true, e, RV.d_val]) k st h (by omega)
  have c := comp_ok (vs := [2]) hq (by rw [List.length_map]; omega) e1
  have hpl : ps.length = xs.length := by rw [← m1]; simp
  obtain ⟨d, st2, e2, hd, q2⟩ := passed_ok (ds := ps.map (·.2)) (by rw [List.length_map]; omega) q1 (by omega)
  refine ⟨d, st2, ?_, ⟨ps, m1, r1, hd⟩, q2.mono (by omega)⟩
  unfold f__law_given_row S__law_given_row
  rw [ev_runF, hs]
  simp -implicitDefEqProofs only [ev_sRet, ev_callE, ev_aC, ev_vr, ev_asD, ev_aN, c, List.getElem?_cons_zero, List.getElem?_cons_succ, bind_ok, RV.d_own, RV.d_val, List.length_cons, List.length_nil, Nat.zero_add, Nat.reduceAdd, if_true, e2, onR_ok, out_ret]
/-- a drawn ratio -/
theorem ratio_ok (h : PenI r k st) (hk : k ≤ 990000) : ∃ x st', f__law_ratio [.cel 0, .int 4] st = .ok (.val (rt x)) st' ∧ Bd 3 x ∧ PenI r (k + 2) st' := by
  obtain ⟨v, st1, e1, v0, v1, q1⟩ := draw (many := 9) h (by omega) (by decide) (by decide)
  obtain ⟨i, y, st2, e2, m2, q2⟩ := pick (l := [.int 1, .int 1, .int 2, .int 3]) q1 (by omega) (by decide) (by decide)
  rw [← draw_is] at e1
  rw [← pick_is] at e2
  have hy := one_of m2
  simp only [List.mem_cons, List.not_mem_nil, or_false] at hy
  obtain ⟨b, hb1, hb2, rfl⟩ : ∃ b : Nat, 1 ≤ b ∧ b ≤ 3 ∧ y = .int (b : Int) := by
    rcases hy with rfl | rfl | rfl | rfl
    · exact ⟨1, by decide, by decide, rfl⟩
    · exact ⟨1, by decide, by decide, rfl⟩
    · exact ⟨2, by decide, by decide, rfl⟩
    · exact ⟨3, by decide, by decide, rfl⟩
  refine ⟨mkRat (v - 4) b, st2, ?_, mk_bd (by omega) (by omega) (by omega), q2.mono (by omega)⟩
  have hs : startE [("pen" : Str), ("most" : Str)] [.cel 0, .int 4] = [.val (.cel 0), .val (.int 4)] := rfl
  have l1 : ∀ st, (lstE (aC (kk (.int 1)) (aC (kk (.int 1)) (aC (kk (.int 2)) (aC (kk (.int 3)) (aN)))))) [.val (.cel 0), .val (.int 4)] st = .ok (.own [.int 1, .int 1, .int 2, .int 3]) st := fun _ => rfl
  have m8 : ∀ st, mulM (.int 2) (.int 4) st = .ok (.val (.int 8)) st := fun _ => rfl
  have hB : b < 2 ^ 8999 := Nat.lt_of_lt_of_le (show b < 2 ^ 2 by omega) (Nat.pow_le_pow_right (by decide) (by decide))
  unfold f__law_ratio S__law_ratio
  rw [ev_runF, hs]
  simp -implicitDefEqProofs only [ev_sRet, ev_callE, ev_aC, ev_vr, ev_vq, ev_kk, ev_asD, ev_op2, ev_aN, l1, m8, addA_ii, sub_ii, List.getElem?_cons_zero, List.getElem?_cons_succ, bind_ok, RV.d_own, RV.d_val, List.length_cons, List.length_nil, Nat.zero_add, Nat.reduceAdd, Int.reduceAdd, if_true, e1, e2, q_rt (show 0 < b by omega) hB, onR_ok, out_ret]
end
end K78

set_option Elab.async false
set_option linter.all false
set_option maxRecDepth 100000
set_option maxHeartbeats 4000000
set_option exponentiation.threshold 20000
namespace K78
open PySem PySem.Spec PyProof.Rows L2 Dn Dn.Pa Dn.Rt
open Dn.Pen (penC PenI PenI.mono ev_compE lcM_nil lcM_cons lcM_all lcB_val all_true own_ok)
/-! ### sums of powers -/
def sumR (l : List Rat) : Rat := l.foldl (· + ·) 0
def heres (ps ws : List Rat) : Nat → List Rat
  | 0 => ws
  | k + 1 => List.zipWith (· * ·) (heres ps ws k) ps
def powR (ps ws : List Rat) (many : Nat) : List Rat := (List.range many).map fun k => sumR (heres ps ws k)
theorem mem_zw {α β γ : Type} {f : α → β → γ} {z : γ} : ∀ {l : List α} {m : List β}, z ∈ List.zipWith f l m → ∃ x ∈ l, ∃ y ∈ m, z = f x y
  | [], m, h => by simp at h
  | x :: l, [], h => by simp at h
  | x :: l, y :: m, h => by
    rw [List.zipWith_cons_cons, List.mem_cons] at h
    rcases h with rfl | h
    · exact ⟨x, by simp, y, by simp, rfl⟩
    · obtain ⟨a, ha, b, hb, e⟩ := mem_zw h
      exact ⟨a, by simp [ha], b, by simp [hb], e⟩
theorem heres_len {ps ws : List Rat} (h : ws.length = ps.length) : ∀ k, (heres ps ws k).length = ps.length
  | 0 => h
  | k + 1 => by simp [heres, heres_len h k]
theorem heres_bd {ps ws : List Rat} {a b : Nat} (hp : ∀ x ∈ ps, Bd b x) (hw : ∀ x ∈ ws, Bd a x) : ∀ k, ∀ x ∈ heres ps ws k, Bd (a + b * k) x
  | 0, x, hx => (hw x hx).mono (by omega)
  | k + 1, x, hx => by
    obtain ⟨y, hy, z, hz, rfl⟩ := mem_zw hx
    refine ((heres_bd hp hw k y hy).mul (hp z hz)).mono ?_
    rw [Nat.mul_add]; omega
theorem fold_bd {m : Nat} : ∀ (l : List Rat) (acc : Rat) (n : Nat), (∀ x ∈ l, Bd m x) → Bd n acc → Bd (n + (m + 1) * l.length) (l.foldl (· + ·) acc)
  | [], acc, n, _, h => by simpa using h
  | x :: l, acc, n, hx, h => by
    have := fold_bd l (acc + x) (n + m + 1) (fun y hy => hx y (by simp [hy])) (h.add (hx x (by simp)))
    refine this.mono ?_
    rw [List.length_cons, Nat.mul_add]; omega
theorem sum_bd {m : Nat} {l : List Rat} (h : ∀ x ∈ l, Bd m x) : Bd (1 + (m + 1) * l.length) (sumR l) := fold_bd l 0 1 h Bd.zero
section
variable {st : Store}
theorem rt0 : rt 0 = .tup [.int 0, .int 1] := rfl
theorem rt1 : rt 1 = .tup [.int 1, .int 1] := rfl
def pLoop : SS := sSeq (sSet 6 (asR (kk (.tup [.int (0), .int (1)])))) (sSeq (sFrz [4] (sFor (itS (vr 4)) (.nm 7) (sFrz [6] (sSet 6 (callE 2 f_summed (aC (vr 6) (aC (vr 7) (aN)))))))) (sSeq (sFrz [6] (sApp 3 (vr 6))) (sSet 4 (compE (itZA (vq 4) (vq 0)) (.tp [7, 8]) (fun _ => pure true) (asD (callE 2 f_scaled (aC (vr 7) (aC (vr 8) (aN))))) [7, 8]))))
def pSum : SS := sFrz [6] (sSet 6 (callE 2 f_summed (aC (vr 6) (aC (vr 7) (aN)))))
def pb0 : SS := sSet 6 (asR (kk (.tup [.int (0), .int (1)])))
def pb1 : SS := sFrz [4] (sFor (itS (vr 4)) (.nm 7) (sFrz [6] (sSet 6 (callE 2 f_summed (aC (vr 6) (aC (vr 7) (aN)))))))
def pb2 : SS := sFrz [6] (sApp 3 (vr 6))
def pb3 : SS := sSet 4 (compE (itZA (vq 4) (vq 0)) (.tp [7, 8]) (fun _ => pure true) (asD (callE 2 f_scaled (aC (vr 7) (aC (vr 8) (aN))))) [7, 8])
theorem pLoop_eq : pLoop = sSeq pb0 (sSeq pb1 (sSeq pb2 pb3)) := rfl
theorem power_row_eq : S_power_row = sSeq (sParR 3 4 (lstE (aN)) (op1 listM (vq 1))) (sSeq (sFor (itR1 (vq 2)) (.nm 5) pLoop) (sRet (op1 tupleM (vq 3)))) := rfl
def qLoop : SS := sSeq (sFrz [4] (sApp 3 (asD (callE 1 f__law_sum (aC (vr 4) (aN)))))) (sSet 4 (compE (itZA (vq 4) (vq 0)) (.tp [6, 7]) (fun _ => pure true) (asD (callE 2 f__law_times (aC (vr 6) (aC (vr 7) (aN))))) [6, 7]))
def qb0 : SS := sFrz [4] (sApp 3 (asD (callE 1 f__law_sum (aC (vr 4) (aN)))))
def qb1 : SS := sSet 4 (compE (itZA (vq 4) (vq 0)) (.tp [6, 7]) (fun _ => pure true) (asD (callE 2 f__law_times (aC (vr 6) (aC (vr 7) (aN))))) [6, 7])
theorem qLoop_eq : qLoop = sSeq qb0 qb1 := rfl
theorem lpower_row_eq : S__law_power_row = sSeq (sParR 3 4 (lstE (aN)) (op1 listM (vq 1))) (sSeq (sFor (itR1 (vq 2)) (.nm 5) qLoop) (sRet (op1 tupleM (vq 3)))) := rfl
def lSum : SS := sFrz [1] (sSet 1 (callE 2 f__law_plus (aC (vr 1) (aC (vr 2) (aN)))))
/-- the sum, item by item -/
theorem pSum_step {a0 a1 a2 a3 a4 a5 a8 : Slot} {acc x : Rat} {n m : Nat} (h1 : Bd n acc) (h2 : Bd m x) (h : n + m ≤ 8999) : pSum [a0, a1, a2, a3, a4, a5, .val (rt acc), .val (rt x), a8] st = .nx [a0, a1, a2, a3, a4, a5, .val (rt (acc + x)), .val (rt x), a8] st := by
  have fz : frzL [6] [a0, a1, a2, a3, a4, a5, .val (rt acc), .val (rt x), a8] = [a0, a1, a2, a3, a4, a5, .val (rt acc), .val (rt x), a8] := rfl
  unfold pSum sFrz
  rw [fz]
  simp -implicitDefEqProofs only [ev_sSet, ev_callE, ev_aC, ev_vr, ev_aN, List.getElem?_cons_zero, List.getElem?_cons_succ, bind_ok, List.length_cons, List.length_nil, Nat.zero_add, Nat.reduceAdd, if_true, summed_rt h1 h2 h, onR_ok, slot_val, List.set_cons_succ, List.set_cons_zero]
  rw [if_pos (by decide)]
theorem pSum_loop {a0 a1 a2 a3 a4 a5 a8 : Slot} {m : Nat} : ∀ (l : List Rat) (acc : Rat) (n : Nat) (s7 : Slot), (∀ x ∈ l, Bd m x) → Bd n acc → n + (m + 1) * l.length + m ≤ 8999 →
    ∃ s7', Dn.forM (.nm 7) pSum (l.map rt) [a0, a1, a2, a3, a4, a5, .val (rt acc), s7, a8] st = .nx [a0, a1, a2, a3, a4, a5, .val (rt (l.foldl (· + ·) acc)), s7', a8] st
  | [], acc, n, s7, _, _, _ => ⟨s7, rfl⟩
  | x :: l, acc, n, s7, hx, h, hn => by
    have e : (m + 1) * (x :: l).length = (m + 1) * l.length + (m + 1) := by rw [List.length_cons, Nat.mul_add, Nat.mul_one]
    rw [e] at hn
    obtain ⟨s, e1⟩ := pSum_loop (a0 := a0) (a1 := a1) (a2 := a2) (a3 := a3) (a4 := a4) (a5 := a5) (a8 := a8) l (acc + x) (n + m + 1) (.val (rt x)) (fun y hy => hx y (by simp [hy])) (h.add (hx x (by simp))) (by omega)
    refine ⟨s, ?_⟩
    rw [List.map_cons, Dn.forM]
    have ep : (Tg.nm 7).put (rt x) [a0, a1, a2, a3, a4, a5, .val (rt acc), s7, a8] = some [a0, a1, a2, a3, a4, a5, .val (rt acc), .val (rt x), a8] := rfl
    simp only [ep, pSum_step h (hx x (by simp)) (show n + m ≤ 8999 by omega), e1]
    rfl
theorem lSum_step {a0 : Slot} {acc x : Rat} {n m : Nat} (h1 : Bd n acc) (h2 : Bd m x) (h : n + m ≤ 8999) : lSum [a0, .val (rt acc), .val (rt x)] st = .nx [a0, .val (rt (acc + x)), .val (rt x)] st := by
  have fz : frzL [1] [a0, .val (rt acc), .val (rt x)] = [a0, .val (rt acc), .val (rt x)] := rfl
  unfold lSum sFrz
  rw [fz]
  simp -implicitDefEqProofs only [ev_sSet, ev_callE, ev_aC, ev_vr, ev_aN, List.getElem?_cons_zero, List.getElem?_cons_succ, bind_ok, List.length_cons, List.length_nil, Nat.zero_add, Nat.reduceAdd, if_true, plus_rt h1 h2 h, onR_ok, slot_val, List.set_cons_succ, List.set_cons_zero]
  rw [if_pos (by decide)]
theorem lSum_loop {a0 : Slot} {m : Nat} : ∀ (l : List Rat) (acc : Rat) (n : Nat) (s7 : Slot), (∀ x ∈ l, Bd m x) → Bd n acc → n + (m + 1) * l.length + m ≤ 8999 →
    ∃ s7', Dn.forM (.nm 2) lSum (l.map rt) [a0, .val (rt acc), s7] st = .nx [a0, .val (rt (l.foldl (· + ·) acc)), s7'] st
  | [], acc, n, s7, _, _, _ => ⟨s7, rfl⟩
  | x :: l, acc, n, s7, hx, h, hn => by
    have e : (m + 1) * (x :: l).length = (m + 1) * l.length + (m + 1) := by rw [List.length_cons, Nat.mul_add, Nat.mul_one]
    rw [e] at hn
    obtain ⟨s, e1⟩ := lSum_loop (a0 := a0) l (acc + x) (n + m + 1) (.val (rt x)) (fun y hy => hx y (by simp [hy])) (h.add (hx x (by simp))) (by omega)
    refine ⟨s, ?_⟩
    rw [List.map_cons, Dn.forM]
    have ep : (Tg.nm 2).put (rt x) [a0, .val (rt acc), s7] = some [a0, .val (rt acc), .val (rt x)] := rfl
    simp only [ep, lSum_step h (hx x (by simp)) (show n + m ≤ 8999 by omega), e1]
    rfl
theorem law_sum_rt {m : Nat} {l : List Rat} (h : ∀ x ∈ l, Bd m x) (hn : 1 + (m + 1) * l.length + m ≤ 8999) : f__law_sum [.lst (l.map rt)] st = .ok (.val (rt (sumR l))) st := by
  obtain ⟨s, e⟩ := lSum_loop (st := st) (a0 := .val (.lst (l.map rt))) l 0 1 .un h Bd.zero hn
  have hs : startE [("rows" : Str), ("found" : Str), ("item" : Str)] [.lst (l.map rt)] = [.val (.lst (l.map rt)), .un, .un] := rfl
  have e0 : (sSet 1 (asR (tupE (aC (kk (.int 0)) (aC (kk (.int 1)) (aN)))))) [.val (.lst (l.map rt)), .un, .un] st = .nx [.val (.lst (l.map rt)), .val (rt 0), .un] st := rfl
  have hq : (itS (vr 0)) [.val (.lst (l.map rt)), .val (rt 0), .un] st = .ok (l.map rt) st := rfl
  have e3 : S__law_sum = sSeq (sSet 1 (asR (tupE (aC (kk (.int 0)) (aC (kk (.int 1)) (aN)))))) (sSeq (sFor (itS (vr 0)) (.nm 2) lSum) (sRetO 1)) := rfl
  unfold f__law_sum
  rw [ev_runF, hs, e3, ev_sSeq, e0, seq_nx, ev_sSeq, ev_sFor, hq, onR_ok, e, seq_nx]
  rfl
/-! one turn -/
theorem zw_pairs (l m : List Rat) : List.zipWith (fun x y => D.tup [x, y]) (l.map rt) (m.map rt) = (l.zip m).map fun p => .tup [rt p.1, rt p.2] := by
  rw [List.zipWith_map, List.map_zip_eq_zipWith]
  rfl
theorem zw_mul (l m : List Rat) : List.zipWith (· * ·) l m = (l.zip m).map fun p => p.1 * p.2 := by
  rw [List.map_zip_eq_zipWith]
  rfl
theorem comp_mul {ρ : Ev} {ps hs : List Rat} {n m : Nat} {f : List D → M RV} {i j : Nat} (hf : ∀ x ∈ hs, ∀ y ∈ ps, f [rt x, rt y] st = .ok (.val (rt (x * y))) st)
    (hq : (itZA (vq 4) (vq 0)) ρ st = .ok (List.zipWith (fun x y => D.tup [x, y]) (hs.map rt) (ps.map rt)) st) (hl : hs.length ≤ 1000)
    (ht : ∀ x y : D, ∃ ρ', (Tg.tp [i, j]).put (.tup [x, y]) (wipeE ρ [i, j]) = some ρ' ∧ ρ'[i]? = some (.val x) ∧ ρ'[j]? = some (.val y)) :
    (compE (itZA (vq 4) (vq 0)) (.tp [i, j]) (fun _ => pure true) (asD (callE 2 f (aC (vr i) (aC (vr j) (aN))))) [i, j]) ρ st = .ok (.own ((List.zipWith (· * ·) hs ps).map rt)) st := by
  refine comp_ok hq (by rw [List.length_zipWith, List.length_map, List.length_map]; omega) ?_
  rw [zw_pairs, zw_mul, List.map_map]
  refine lcM_map (fun p : Rat × Rat => D.tup [rt p.1, rt p.2]) (fun p => rt (p.1 * p.2)) fun p hp => ?_
  obtain ⟨ρ', e1, e2, e3⟩ := ht (rt p.1) (rt p.2)
  refine lcB_val e1 ?_
  have := hf p.1 (List.of_mem_zip hp).1 p.2 (List.of_mem_zip hp).2
  simp -implicitDefEqProofs only [ev_asD, ev_callE, ev_aC, ev_vr, ev_aN, e2, e3, bind_ok, List.length_cons, List.length_nil, Nat.zero_add, Nat.reduceAdd, if_true, this, RV.d_val]
theorem app_ok {ρ : Ev} {i : Nat} {fv : Ev → M D} {ds : List D} {v : D} {st st' : Store} (h1 : ownAt ρ i = some ds) (h2 : fv ρ st = .ok v st') (h3 : ds.length < 16777216) : sApp i fv ρ st = .nx (ρ.set i (.own (ds ++ [v]))) st' := by
  unfold sApp
  rw [h1]
  show onR (fv ρ st) ρ _ = _
  rw [h2, onR_ok, if_pos (decide_eq_true h3)]
/-- the turns done so far -/
def outs (ps ws : List Rat) (j : Nat) : List D := (List.range j).map fun k => rt (sumR (heres ps ws k))
theorem outs_succ (ps ws : List Rat) (j : Nat) : outs ps ws (j + 1) = outs ps ws j ++ [rt (sumR (heres ps ws j))] := by
  unfold outs
  rw [List.range_succ, List.map_append]
  rfl
section
variable {ps ws : List Rat} {a b : Nat} (hp : ∀ x ∈ ps, Bd b x) (hw : ∀ x ∈ ws, Bd a x) (ha : a ≤ 40) (hb : b ≤ 40) (hl : ws.length = ps.length) (hL : ps.length ≤ 12)
include hp hw ha hb hl hL
theorem size_ok {j : Nat} (hj : j ≤ 12) : 1 + ((a + b * j) + 1) * (heres ps ws j).length + (a + b * j) ≤ 8999 := by
  rw [heres_len hl]
  have h1 : b * j ≤ 40 * 12 := Nat.mul_le_mul hb hj
  have h2 : (a + b * j + 1) * ps.length ≤ 521 * 12 := Nat.mul_le_mul (by omega) hL
  omega
theorem pTurn {j : Nat} (hj : j < 12) {k : D} {m : D} {s6 s7 s8 : Slot} : ∃ s6' s7', pLoop [.val (row ps), .val (row ws), .val m, .own (outs ps ws j), .own ((heres ps ws j).map rt), .val k, s6, s7, s8] st = .nx [.val (row ps), .val (row ws), .val m, .own (outs ps ws (j + 1)), .own ((heres ps ws (j + 1)).map rt), .val k, s6', s7', s8] st := by
  have sz := size_ok hp hw ha hb hl hL (show j ≤ 12 by omega)
  have hbd := heres_bd hp hw j
  obtain ⟨s7', e1⟩ := pSum_loop (st := st) (a0 := .val (row ps)) (a1 := .val (row ws)) (a2 := .val m) (a3 := .own (outs ps ws j)) (a4 := .val (.lst ((heres ps ws j).map rt))) (a5 := .val k) (a8 := s8) (heres ps ws j) 0 1 s7 hbd Bd.zero sz
  refine ⟨.val (rt (sumR (heres ps ws j))), s7', ?_⟩
  have w0 : pb0 [.val (row ps), .val (row ws), .val m, .own (outs ps ws j), .own ((heres ps ws j).map rt), .val k, s6, s7, s8] st = .nx [.val (row ps), .val (row ws), .val m, .own (outs ps ws j), .own ((heres ps ws j).map rt), .val k, .val (rt 0), s7, s8] st := rfl
  have w1 : pb1 [.val (row ps), .val (row ws), .val m, .own (outs ps ws j), .own ((heres ps ws j).map rt), .val k, .val (rt 0), s7, s8] st = .nx [.val (row ps), .val (row ws), .val m, .own (outs ps ws j), .val (.lst ((heres ps ws j).map rt)), .val k, .val (rt (sumR (heres ps ws j))), s7', s8] st := by
    have hq : (itS (vr 4)) [.val (row ps), .val (row ws), .val m, .own (outs ps ws j), .val (.lst ((heres ps ws j).map rt)), .val k, .val (rt 0), s7, s8] st = .ok ((heres ps ws j).map rt) st := rfl
    show (sFor (itS (vr 4)) (.nm 7) pSum) (frzL [4] [.val (row ps), .val (row ws), .val m, .own (outs ps ws j), .own ((heres ps ws j).map rt), .val k, .val (rt 0), s7, s8]) st = _
    have fz : frzL [4] [.val (row ps), .val (row ws), .val m, .own (outs ps ws j), .own ((heres ps ws j).map rt), .val k, .val (rt 0), s7, s8] = [.val (row ps), .val (row ws), .val m, .own (outs ps ws j), .val (.lst ((heres ps ws j).map rt)), .val k, .val (rt 0), s7, s8] := rfl
    rw [fz, ev_sFor, hq, onR_ok, e1]
    rfl
  have w2 : pb2 [.val (row ps), .val (row ws), .val m, .own (outs ps ws j), .val (.lst ((heres ps ws j).map rt)), .val k, .val (rt (sumR (heres ps ws j))), s7', s8] st = .nx [.val (row ps), .val (row ws), .val m, .own (outs ps ws (j + 1)), .val (.lst ((heres ps ws j).map rt)), .val k, .val (rt (sumR (heres ps ws j))), s7', s8] st := by
    rw [outs_succ]
    have hlo : (outs ps ws j).length = j := by simp [outs]
    have fz : frzL [6] [.val (row ps), .val (row ws), .val m, .own (outs ps ws j), .val (.lst ((heres ps ws j).map rt)), .val k, .val (rt (sumR (heres ps ws j))), s7', s8] = [.val (row ps), .val (row ws), .val m, .own (outs ps ws j), .val (.lst ((heres ps ws j).map rt)), .val k, .val (rt (sumR (heres ps ws j))), s7', s8] := rfl
    show (sApp 3 (vr 6)) (frzL [6] [.val (row ps), .val (row ws), .val m, .own (outs ps ws j), .val (.lst ((heres ps ws j).map rt)), .val k, .val (rt (sumR (heres ps ws j))), s7', s8]) st = _
    rw [fz]
    have := app_ok (ρ := [.val (row ps), .val (row ws), .val m, .own (outs ps ws j), .val (.lst ((heres ps ws j).map rt)), .val k, .val (rt (sumR (heres ps ws j))), s7', s8]) (i := 3) (fv := vr 6) (ds := outs ps ws j) (v := rt (sumR (heres ps ws j))) (st := st) (st' := st) rfl rfl (by rw [hlo]; omega)
    rw [this]
    rfl
  have w3 : pb3 [.val (row ps), .val (row ws), .val m, .own (outs ps ws (j + 1)), .val (.lst ((heres ps ws j).map rt)), .val k, .val (rt (sumR (heres ps ws j))), s7', s8] st = .nx [.val (row ps), .val (row ws), .val m, .own (outs ps ws (j + 1)), .own ((heres ps ws (j + 1)).map rt), .val k, .val (rt (sumR (heres ps ws j))), s7', s8] st := by
    have hbj : b * j ≤ 40 * 12 := Nat.mul_le_mul hb (by omega)
    have hf : ∀ x ∈ heres ps ws j, ∀ y ∈ ps, f_scaled [rt x, rt y] st = .ok (.val (rt (x * y))) st := fun x hx y hy => scaled_rt (hbd x hx) (hp y hy) (by omega)
    have := comp_mul (ρ := [.val (row ps), .val (row ws), .val m, .own (outs ps ws (j + 1)), .val (.lst ((heres ps ws j).map rt)), .val k, .val (rt (sumR (heres ps ws j))), s7', s8]) (i := 7) (j := 8) (n := 0) (m := 0) hf rfl (by rw [heres_len hl]; omega) fun x y => ⟨_, rfl, rfl, rfl⟩
    show (sSet 4 (compE (itZA (vq 4) (vq 0)) (.tp [7, 8]) (fun _ => pure true) (asD (callE 2 f_scaled (aC (vr 7) (aC (vr 8) (aN))))) [7, 8])) _ st = _
    rw [ev_sSet, this, onR_ok]
    rfl
  rw [pLoop_eq, ev_sSeq, w0, seq_nx, ev_sSeq, w1, seq_nx, ev_sSeq, w2, seq_nx, w3]
end
end
end K78

set_option Elab.async false
set_option linter.all false
set_option maxRecDepth 100000
set_option maxHeartbeats 4000000
set_option exponentiation.threshold 20000
namespace K78
open PySem PySem.Spec PyProof.Rows L2 Dn Dn.Pa Dn.Rt
open Dn.Pen (penC PenI PenI.mono ev_compE lcM_nil lcM_cons lcM_all lcB_val all_true own_ok)
theorem par_ok {i j : Nat} {f h : Ev → M RV} {ρ : Ev} {x y : RV} {st st1 st2 : Store} (e1 : f ρ st = .ok x st1) (e2 : h ρ st1 = .ok y st2) (hi : i < ρ.length ∧ j < ρ.length) : sParR i j f h ρ st = .nx ((ρ.set i x.slot).set j y.slot) st2 := by
  have e : (do let x ← f ρ; let y ← h ρ; pure (x, y) : M (RV × RV)) st = .ok (x, y) st2 := by
    rw [m_bind, e1, bind_ok, m_bind, e2, bind_ok]
    rfl
  unfold sParR
  show onR ((do let x ← f ρ; let y ← h ρ; pure (x, y) : M (RV × RV)) st) ρ _ = _
  rw [e, onR_ok, if_pos hi]
section
variable {st : Store} {ps ws : List Rat} {a b : Nat} (hp : ∀ x ∈ ps, Bd b x) (hw : ∀ x ∈ ws, Bd a x) (ha : a ≤ 40) (hb : b ≤ 40) (hl : ws.length = ps.length) (hL : ps.length ≤ 12)
include hp hw ha hb hl hL
theorem qTurn {j : Nat} (hj : j < 12) {k : D} {m : D} {s6 s7 : Slot} : qLoop [.val (row ps), .val (row ws), .val m, .own (outs ps ws j), .own ((heres ps ws j).map rt), .val k, s6, s7] st = .nx [.val (row ps), .val (row ws), .val m, .own (outs ps ws (j + 1)), .own ((heres ps ws (j + 1)).map rt), .val k, s6, s7] st := by
  have sz := size_ok hp hw ha hb hl hL (show j ≤ 12 by omega)
  have hbd := heres_bd hp hw j
  have hsum : f__law_sum [.lst ((heres ps ws j).map rt)] st = .ok (.val (rt (sumR (heres ps ws j)))) st := law_sum_rt hbd sz
  have w0 : qb0 [.val (row ps), .val (row ws), .val m, .own (outs ps ws j), .own ((heres ps ws j).map rt), .val k, s6, s7] st = .nx [.val (row ps), .val (row ws), .val m, .own (outs ps ws (j + 1)), .val (.lst ((heres ps ws j).map rt)), .val k, s6, s7] st := by
    rw [outs_succ]
    have hlo : (outs ps ws j).length = j := by simp [outs]
    have fz : frzL [4] [.val (row ps), .val (row ws), .val m, .own (outs ps ws j), .own ((heres ps ws j).map rt), .val k, s6, s7] = [.val (row ps), .val (row ws), .val m, .own (outs ps ws j), .val (.lst ((heres ps ws j).map rt)), .val k, s6, s7] := rfl
    have hv : (asD (callE 1 f__law_sum (aC (vr 4) (aN)))) [.val (row ps), .val (row ws), .val m, .own (outs ps ws j), .val (.lst ((heres ps ws j).map rt)), .val k, s6, s7] st = .ok (rt (sumR (heres ps ws j))) st := by
      simp -implicitDefEqProofs only [ev_asD, ev_callE, ev_aC, ev_vr, ev_aN, List.getElem?_cons_zero, List.getElem?_cons_succ, bind_ok, List.length_cons, List.length_nil, Nat.zero_add, if_true, hsum, RV.d_val]
    show (sApp 3 (asD (callE 1 f__law_sum (aC (vr 4) (aN))))) (frzL [4] [.val (row ps), .val (row ws), .val m, .own (outs ps ws j), .own ((heres ps ws j).map rt), .val k, s6, s7]) st = _
    rw [fz]
    have := app_ok (i := 3) (ds := outs ps ws j) (ρ := [.val (row ps), .val (row ws), .val m, .own (outs ps ws j), .val (.lst ((heres ps ws j).map rt)), .val k, s6, s7]) rfl hv (by rw [hlo]; omega)
    rw [this]
    rfl
  have w1 : qb1 [.val (row ps), .val (row ws), .val m, .own (outs ps ws (j + 1)), .val (.lst ((heres ps ws j).map rt)), .val k, s6, s7] st = .nx [.val (row ps), .val (row ws), .val m, .own (outs ps ws (j + 1)), .own ((heres ps ws (j + 1)).map rt), .val k, s6, s7] st := by
    have hbj : b * j ≤ 40 * 12 := Nat.mul_le_mul hb (by omega)
    have hf : ∀ x ∈ heres ps ws j, ∀ y ∈ ps, f__law_times [rt x, rt y] st = .ok (.val (rt (x * y))) st := fun x hx y hy => times_rt (hbd x hx) (hp y hy) (by omega)
    have := comp_mul (ρ := [.val (row ps), .val (row ws), .val m, .own (outs ps ws (j + 1)), .val (.lst ((heres ps ws j).map rt)), .val k, s6, s7]) (i := 6) (j := 7) (n := 0) (m := 0) hf rfl (by rw [heres_len hl]; omega) fun x y => ⟨_, rfl, rfl, rfl⟩
    show (sSet 4 (compE (itZA (vq 4) (vq 0)) (.tp [6, 7]) (fun _ => pure true) (asD (callE 2 f__law_times (aC (vr 6) (aC (vr 7) (aN))))) [6, 7])) _ st = _
    rw [ev_sSet, this, onR_ok]
    rfl
  rw [qLoop_eq, ev_sSeq, w0, seq_nx, w1]
theorem pTurns : ∀ (c : Nat) {j : Nat} (hj : j + c ≤ 12) {m : D} {s5 s6 s7 s8 : Slot}, ∃ t5 t6 t7 t8, Dn.forM (.nm 5) pLoop ((List.range' j c).map fun (i : Nat) => D.int (i : Int)) [.val (row ps), .val (row ws), .val m, .own (outs ps ws j), .own ((heres ps ws j).map rt), s5, s6, s7, s8] st =
    .nx [.val (row ps), .val (row ws), .val m, .own (outs ps ws (j + c)), .own ((heres ps ws (j + c)).map rt), t5, t6, t7, t8] st
  | 0, j, hj, m, s5, s6, s7, s8 => ⟨s5, s6, s7, s8, rfl⟩
  | c + 1, j, hj, m, s5, s6, s7, s8 => by
    obtain ⟨t6, t7, e1⟩ := pTurn (st := st) hp hw ha hb hl hL (show j < 12 by omega) (k := .int (j : Int)) (m := m) (s6 := s6) (s7 := s7) (s8 := s8)
    obtain ⟨u5, u6, u7, u8, e2⟩ := pTurns c (j := j + 1) (by omega) (m := m) (s5 := .val (.int (j : Int))) (s6 := t6) (s7 := t7) (s8 := s8)
    refine ⟨u5, u6, u7, u8, ?_⟩
    rw [List.range'_succ, List.map_cons, Dn.forM]
    have ep : (Tg.nm 5).put (.int (j : Int)) [.val (row ps), .val (row ws), .val m, .own (outs ps ws j), .own ((heres ps ws j).map rt), s5, s6, s7, s8] = some [.val (row ps), .val (row ws), .val m, .own (outs ps ws j), .own ((heres ps ws j).map rt), .val (.int (j : Int)), s6, s7, s8] := rfl
    simp only [ep, e1, e2]
    rw [show j + 1 + c = j + (c + 1) by omega]
theorem qTurns : ∀ (c : Nat) {j : Nat} (hj : j + c ≤ 12) {m : D} {s5 s6 s7 : Slot}, ∃ t5, Dn.forM (.nm 5) qLoop ((List.range' j c).map fun (i : Nat) => D.int (i : Int)) [.val (row ps), .val (row ws), .val m, .own (outs ps ws j), .own ((heres ps ws j).map rt), s5, s6, s7] st =
    .nx [.val (row ps), .val (row ws), .val m, .own (outs ps ws (j + c)), .own ((heres ps ws (j + c)).map rt), t5, s6, s7] st
  | 0, j, hj, m, s5, s6, s7 => ⟨s5, rfl⟩
  | c + 1, j, hj, m, s5, s6, s7 => by
    have e1 := qTurn (st := st) hp hw ha hb hl hL (show j < 12 by omega) (k := .int (j : Int)) (m := m) (s6 := s6) (s7 := s7)
    obtain ⟨u5, e2⟩ := qTurns c (j := j + 1) (by omega) (m := m) (s5 := .val (.int (j : Int))) (s6 := s6) (s7 := s7)
    refine ⟨u5, ?_⟩
    rw [List.range'_succ, List.map_cons, Dn.forM]
    have ep : (Tg.nm 5).put (.int (j : Int)) [.val (row ps), .val (row ws), .val m, .own (outs ps ws j), .own ((heres ps ws j).map rt), s5, s6, s7] = some [.val (row ps), .val (row ws), .val m, .own (outs ps ws j), .own ((heres ps ws j).map rt), .val (.int (j : Int)), s6, s7] := rfl
    simp only [ep, e1, e2]
    rw [show j + 1 + c = j + (c + 1) by omega]
theorem outs_row {many : Nat} : D.tup (outs ps ws many) = row (powR ps ws many) := by
  unfold outs row powR
  rw [List.map_map]
  rfl
theorem power_row_rt {many : Nat} (hm : many ≤ 12) : f_power_row [row ps, row ws, .int (many : Int)] st = .ok (.val (row (powR ps ws many))) st := by
  have hs : startE [("points" : Str), ("weights" : Str), ("many" : Str), ("out" : Str), ("here" : Str), ("lap" : Str), ("total" : Str), ("item" : Str), ("point" : Str)] [row ps, row ws, .int (many : Int)] = [.val (row ps), .val (row ws), .val (.int (many : Int)), .un, .un, .un, .un, .un, .un] := rfl
  obtain ⟨t5, t6, t7, t8, e⟩ := pTurns (st := st) hp hw ha hb hl hL many (j := 0) (by omega) (m := .int (many : Int)) (s5 := .un) (s6 := .un) (s7 := .un) (s8 := .un)
  rw [Nat.zero_add] at e
  have hlw : (ws.map rt).length ≤ 16777216 := by rw [List.length_map]; omega
  have w0 : (sParR 3 4 (lstE (aN)) (op1 listM (vq 1))) [.val (row ps), .val (row ws), .val (.int (many : Int)), .un, .un, .un, .un, .un, .un] st = .nx [.val (row ps), .val (row ws), .val (.int (many : Int)), .own (outs ps ws 0), .own ((heres ps ws 0).map rt), .un, .un, .un, .un] st := by
    have l1 : (op1 listM (vq 1)) [.val (row ps), .val (row ws), .val (.int (many : Int)), .un, .un, .un, .un, .un, .un] st = .ok (.own (ws.map rt)) st := by
      rw [ev_op1]
      exact list_t st hlw
    have l0 : (lstE (aN)) [.val (row ps), .val (row ws), .val (.int (many : Int)), .un, .un, .un, .un, .un, .un] st = .ok (.own []) st := rfl
    exact par_ok l0 l1 (by simp)
  have hq : (itR1 (vq 2)) [.val (row ps), .val (row ws), .val (.int (many : Int)), .own (outs ps ws 0), .own ((heres ps ws 0).map rt), .un, .un, .un, .un] st = .ok ((List.range' 0 many).map fun (i : Nat) => D.int (i : Int)) st := by
    simp -implicitDefEqProofs only [ev_itR1, ev_vq, List.getElem?_cons_succ, List.getElem?_cons_zero, bind_ok]
    rw [rng_ok many st (by omega), List.range_eq_range']
  have hlo : (outs ps ws many).length ≤ 16777216 := by simp [outs]; omega
  have wr : (sRet (op1 tupleM (vq 3))) [.val (row ps), .val (row ws), .val (.int (many : Int)), .own (outs ps ws many), .own ((heres ps ws many).map rt), t5, t6, t7, t8] st = .ret (.val (row (powR ps ws many))) st := by
    rw [ev_sRet, ev_op1]
    show onR (tupleM (.lst (outs ps ws many)) st) _ _ = _
    rw [tuple_l st hlo, onR_ok, outs_row hp hw ha hb hl hL]
  unfold f_power_row
  rw [ev_runF, hs, power_row_eq, ev_sSeq, w0, seq_nx, ev_sSeq, ev_sFor, hq, onR_ok, e, seq_nx, wr, out_ret]
theorem law_power_row_rt {many : Nat} (hm : many ≤ 12) : f__law_power_row [row ps, row ws, .int (many : Int)] st = .ok (.val (row (powR ps ws many))) st := by
  have hs : startE [("points" : Str), ("weights" : Str), ("many" : Str), ("found" : Str), ("here" : Str), ("lap" : Str), ("a" : Str), ("b" : Str)] [row ps, row ws, .int (many : Int)] = [.val (row ps), .val (row ws), .val (.int (many : Int)), .un, .un, .un, .un, .un] := rfl
  obtain ⟨t5, e⟩ := qTurns (st := st) hp hw ha hb hl hL many (j := 0) (by omega) (m := .int (many : Int)) (s5 := .un) (s6 := .un) (s7 := .un)
  rw [Nat.zero_add] at e
  have hlw : (ws.map rt).length ≤ 16777216 := by rw [List.length_map]; omega
  have w0 : (sParR 3 4 (lstE (aN)) (op1 listM (vq 1))) [.val (row ps), .val (row ws), .val (.int (many : Int)), .un, .un, .un, .un, .un] st = .nx [.val (row ps), .val (row ws), .val (.int (many : Int)), .own (outs ps ws 0), .own ((heres ps ws 0).map rt), .un, .un, .un] st := by
    have l1 : (op1 listM (vq 1)) [.val (row ps), .val (row ws), .val (.int (many : Int)), .un, .un, .un, .un, .un] st = .ok (.own (ws.map rt)) st := by
      rw [ev_op1]
      exact list_t st hlw
    have l0 : (lstE (aN)) [.val (row ps), .val (row ws), .val (.int (many : Int)), .un, .un, .un, .un, .un] st = .ok (.own []) st := rfl
    exact par_ok l0 l1 (by simp)
  have hq : (itR1 (vq 2)) [.val (row ps), .val (row ws), .val (.int (many : Int)), .own (outs ps ws 0), .own ((heres ps ws 0).map rt), .un, .un, .un] st = .ok ((List.range' 0 many).map fun (i : Nat) => D.int (i : Int)) st := by
    simp -implicitDefEqProofs only [ev_itR1, ev_vq, List.getElem?_cons_succ, List.getElem?_cons_zero, bind_ok]
    rw [rng_ok many st (by omega), List.range_eq_range']
  have hlo : (outs ps ws many).length ≤ 16777216 := by simp [outs]; omega
  have wr : (sRet (op1 tupleM (vq 3))) [.val (row ps), .val (row ws), .val (.int (many : Int)), .own (outs ps ws many), .own ((heres ps ws many).map rt), t5, .un, .un] st = .ret (.val (row (powR ps ws many))) st := by
    rw [ev_sRet, ev_op1]
    show onR (tupleM (.lst (outs ps ws many)) st) _ _ = _
    rw [tuple_l st hlo, onR_ok, outs_row hp hw ha hb hl hL]
  unfold f__law_power_row
  rw [ev_runF, hs, lpower_row_eq, ev_sSeq, w0, seq_nx, ev_sSeq, ev_sFor, hq, onR_ok, e, seq_nx, wr, out_ret]
end
section
variable {st : Store}
theorem need_ok (w : D) {m lo hi : Int} (h1 : lo ≤ m) (h2 : m ≤ hi) : f_need_between [w, .int m, .int lo, .int hi] st = .ok (.val .non) st := by
  have hs : startE [("what" : Str), ("number" : Str), ("low" : Str), ("high" : Str)] [w, .int m, .int lo, .int hi] = [.val w, .val (.int m), .val (.int lo), .val (.int hi)] := rfl
  have i1 : isnM (.int lo) .non st = .ok (.val (.bl true)) st := rfl
  have i2 : isnM (.int hi) .non st = .ok (.val (.bl true)) st := rfl
  have n1 : decide (m < lo) = false := decide_eq_false (by omega)
  have n2 : decide (hi < m) = false := decide_eq_false (by omega)
  unfold f_need_between S_need_between
  rw [ev_runF, hs]
  simp -implicitDefEqProofs only [ev_sSeq, ev_sIf, ev_notT, ev_truE, ev_orT, ev_andT, ev_tstE, ev_op2, ev_asD, ev_callE, ev_aC, ev_vr, ev_vq, ev_kk, ev_aN, List.getElem?_cons_zero, List.getElem?_cons_succ, bind_ok, List.length_cons, List.length_nil, Nat.zero_add, if_true, whole_i, RV.d_val, tru_b, Bool.not_true, onR_ok, Bool.false_eq_true, if_false, ev_sNil, seq_nx, i1, i2, bl_ok, lt_ii, gt_ii, n1, n2, out_nx]
theorem len_row (xs : List Rat) : lenM (row xs) st = .ok (.val (.int (xs.length : Int))) st := by
  show Res.ok _ _ = _
  simp [row]
theorem power_sums_rt {ps ws : List Rat} {a b : Nat} {d e : D} (gp : Gv ps d) (gw : Gv ws e) (hp : ∀ x ∈ ps, Bd b x) (hw : ∀ x ∈ ws, Bd a x) (ha : a ≤ 40) (hb : b ≤ 40) (hl : ws.length = ps.length) (h1 : 1 ≤ ps.length) (h6 : ps.length ≤ 6) {many : Nat} (hm1 : 1 ≤ many) (hm : many ≤ 12) :
    f_power_sums [d, e, .int (many : Int)] st = .ok (.val (row (powR ps ws many))) st := by
  have r1 : f_row_from [d, .int 1, .int 6] st = .ok (.val (row ps)) st := row_from_rt gp hp (show b ≤ 8900 by omega) (lo := 1) (hi := 6) h1 h6 (by omega)
  have r2 : f_row_from [e, .int (ps.length : Int), .int (ps.length : Int)] st = .ok (.val (row ws)) st := row_from_rt gw hw (show a ≤ 8900 by omega) (by omega) (by omega) (by omega)
  have nd : f_need_between [.str ("many" : Str), .int (many : Int), .int 1, .int 12] st = .ok (.val .non) st := need_ok _ (by omega) (by omega)
  have pr := power_row_rt (st := st) hp hw ha hb hl (by omega) hm
  have hs : startE [("points" : Str), ("weights" : Str), ("many" : Str), ("first" : Str), ("second" : Str)] [d, e, .int (many : Int)] = [.val d, .val e, .val (.int (many : Int)), .un, .un] := rfl
  have w0 : (sSet 3 (callE 3 f_row_from (aC (vr 0) (aC (kk (.int 1)) (aC (kk (.int 6)) (aN)))))) [.val d, .val e, .val (.int (many : Int)), .un, .un] st = .nx [.val d, .val e, .val (.int (many : Int)), .val (row ps), .un] st := by
    simp -implicitDefEqProofs only [ev_sSet, ev_callE, ev_aC, ev_vr, ev_kk, ev_aN, List.getElem?_cons_zero, List.getElem?_cons_succ, bind_ok, List.length_cons, List.length_nil, Nat.zero_add, Nat.reduceAdd, if_true, r1, onR_ok, slot_val, List.set_cons_succ, List.set_cons_zero]
    rw [if_pos (by decide)]
  have w1 : (sSet 4 (callE 3 f_row_from (aC (vr 1) (aC (asD (op1 lenM (vq 3))) (aC (asD (op1 lenM (vq 3))) (aN)))))) [.val d, .val e, .val (.int (many : Int)), .val (row ps), .un] st = .nx [.val d, .val e, .val (.int (many : Int)), .val (row ps), .val (row ws)] st := by
    simp -implicitDefEqProofs only [ev_sSet, ev_callE, ev_aC, ev_vr, ev_vq, ev_asD, ev_op1, ev_aN, len_row, RV.d_val, List.getElem?_cons_zero, List.getElem?_cons_succ, bind_ok, List.length_cons, List.length_nil, Nat.zero_add, Nat.reduceAdd, if_true, r2, onR_ok, slot_val, List.set_cons_succ, List.set_cons_zero]
    rw [if_pos (by decide)]
  have fz : frzL [3, 4] [.val d, .val e, .val (.int (many : Int)), .val (row ps), .val (row ws)] = [.val d, .val e, .val (.int (many : Int)), .val (row ps), .val (row ws)] := rfl
  unfold f_power_sums S_power_sums
  rw [ev_runF, hs, ev_sSeq, w0, seq_nx, ev_sSeq, w1, seq_nx, ev_sSeq]
  unfold sFrz
  simp -implicitDefEqProofs only [ev_sExp, ev_callE, ev_aC, ev_vr, ev_kk, ev_aN, List.getElem?_cons_zero, List.getElem?_cons_succ, bind_ok, List.length_cons, List.length_nil, Nat.zero_add, Nat.reduceAdd, if_true, nd, onR_ok, seq_nx, fz, ev_sRet, pr, out_ret]
end
end K78

set_option Elab.async false
set_option linter.all false
set_option maxRecDepth 100000
set_option maxHeartbeats 4000000
set_option exponentiation.threshold 20000
namespace K78
open PySem PySem.Spec PyProof.Rows L2 Dn Dn.Pa Dn.Rt
open Dn.Pen (penC PenI PenI.mono ev_compE lcM_nil lcM_cons lcM_all lcB_val all_true own_ok)
def hank (xs : List Rat) (n s : Nat) : List (List Rat) := (List.range n).map fun i => (List.range n).map fun j => xs.getD (i + j + s) 0
def turn (m : Nat) (xss : List (List Rat)) : List (List Rat) := (List.range m).map fun k => xss.map fun r => r.getD k 0
def diag (xs : List Rat) : List (List Rat) := (List.range xs.length).map fun i => (List.range xs.length).map fun j => if i = j then xs.getD i 0 else 0
def dotS (o : Rat) (p : Rat × Rat) : Rat := if p.1 ≠ 0 ∧ p.2 ≠ 0 then o + p.1 * p.2 else o
def dot (xs ys : List Rat) : Rat := (xs.zip ys).foldl dotS 0
def mulT (xss yss : List (List Rat)) (m : Nat) : List (List Rat) := xss.map fun r => (turn m yss).map fun c => dot r c
section
variable {st : Store}
theorem comp_seq {α : Type} {q : Ev → M (List D)} {T : Tg} {f : Ev → M D} {vs : List Nat} {ρ : Ev} (g F : α → D) (l : List α) (ρ' : α → Ev) (hq : q ρ st = .ok (l.map g) st) (hl : l.length ≤ 1000) (ht : ∀ a, T.put (g a) (wipeE ρ vs) = some (ρ' a))
    (h : ∀ a ∈ l, f (ρ' a) st = .ok (F a) st) : compE q T (fun _ => pure true) f vs ρ st = .ok (.own (l.map F)) st :=
  comp_ok hq (by rw [List.length_map]; omega) (lcM_map g F fun a ha => lcB_val (ht a) (h a ha))
theorem comp_rng {q : Ev → M (List D)} {T : Tg} {f : Ev → M D} {vs : List Nat} {ρ : Ev} (n : Nat) (F : Nat → D) (ρ' : Nat → Ev) (hq : q ρ st = .ok ((List.range n).map fun (i : Nat) => D.int (i : Int)) st) (hn : n ≤ 1000) (ht : ∀ k : Nat, T.put (.int (k : Int)) (wipeE ρ vs) = some (ρ' k))
    (h : ∀ k, k < n → f (ρ' k) st = .ok (F k) st) : compE q T (fun _ => pure true) f vs ρ st = .ok (.own ((List.range n).map F)) st :=
  comp_seq (fun (i : Nat) => D.int (i : Int)) F (List.range n) ρ' hq (by rw [List.length_range]; exact hn) ht fun k hk => h k (List.mem_range.mp hk)
theorem ix_row {xs : List Rat} {k : Nat} (h : k < xs.length) : ixM (row xs) (.int (k : Int)) st = .ok (.val (rt (xs.getD k 0))) st := by
  refine ix_t st (by omega) ?_
  rw [Int.toNat_natCast, List.getElem?_map, List.getD_eq_getElem?_getD, List.getElem?_eq_getElem h]
  rfl
theorem ix_rows {xss : List (List Rat)} {k : Nat} (h : k < xss.length) : ixM (rows xss) (.int (k : Int)) st = .ok (.val (row (xss.getD k []))) st := by
  refine ix_t st (by omega) ?_
  rw [Int.toNat_natCast, List.getElem?_map, List.getD_eq_getElem?_getD, List.getElem?_eq_getElem h]
  rfl
theorem len_rows (xss : List (List Rat)) : lenM (rows xss) st = .ok (.val (.int (xss.length : Int))) st := by
  show Res.ok _ _ = _
  simp [rows]
theorem tup_rows {xss : List (List Rat)} (h : xss.length ≤ 1000) : tupleM (.lst (xss.map row)) st = .ok (.val (rows xss)) st := tuple_l st (by rw [List.length_map]; omega)
theorem tup_row {xs : List Rat} (h : xs.length ≤ 1000) : tupleM (.lst (xs.map rt)) st = .ok (.val (row xs)) st := tuple_l st (by rw [List.length_map]; omega)
/-! ### hankel -/
theorem hankel_by_rt {xs : List Rat} {n s : Nat} (h : 2 * n + s ≤ xs.length + 1) (hn : n ≤ 1000) : f_hankel_by [row xs, .int (n : Int), .int (s : Int)] st = .ok (.val (rows (hank xs n s))) st := by
  have hs : startE [("row" : Str), ("size" : Str), ("start" : Str), ("i" : Str), ("j" : Str)] [row xs, .int (n : Int), .int (s : Int)] = [.val (row xs), .val (.int (n : Int)), .val (.int (s : Int)), .un, .un] := rfl
  have hq : ∀ a b : Slot, (itR1 (vq 1)) [.val (row xs), .val (.int (n : Int)), .val (.int (s : Int)), a, b] st = .ok ((List.range n).map fun (i : Nat) => D.int (i : Int)) st := fun a b => by
    simp -implicitDefEqProofs only [ev_itR1, ev_vq, List.getElem?_cons_succ, List.getElem?_cons_zero, bind_ok]
    exact rng_ok n st (by omega)
  have c2 : ∀ i, i < n → (compE (itR1 (vq 1)) (.nm 4) (fun _ => pure true) (asD (op2 ixM (vq 0) (asD (op2 addA (asD (op2 addA (vq 3) (vq 4))) (vq 2))))) [4]) [.val (row xs), .val (.int (n : Int)), .val (.int (s : Int)), .val (.int (i : Int)), .un] st = .ok (.own (((List.range n).map fun j => xs.getD (i + j + s) 0).map rt)) st := fun i hi => by
    rw [List.map_map]
    refine comp_rng n _ (fun j => [.val (row xs), .val (.int (n : Int)), .val (.int (s : Int)), .val (.int (i : Int)), .val (.int (j : Int))]) (hq _ _) hn (fun _ => rfl) fun j hj => ?_
    have e : ((i : Int) + (j : Int) + (s : Int)) = ((i + j + s : Nat) : Int) := by omega
    simp -implicitDefEqProofs only [ev_asD, ev_op2, ev_vq, List.getElem?_cons_zero, List.getElem?_cons_succ, bind_ok, addA_ii, RV.d_val, e, ix_row (show i + j + s < xs.length by omega)]
    rfl
  have c1 : (compE (itR1 (vq 1)) (.nm 3) (fun _ => pure true) (asD (op1 tupleM (asD (compE (itR1 (vq 1)) (.nm 4) (fun _ => pure true) (asD (op2 ixM (vq 0) (asD (op2 addA (asD (op2 addA (vq 3) (vq 4))) (vq 2))))) [4])))) [3]) [.val (row xs), .val (.int (n : Int)), .val (.int (s : Int)), .un, .un] st = .ok (.own ((hank xs n s).map row)) st := by
    unfold hank
    rw [List.map_map]
    refine comp_rng n _ (fun i => [.val (row xs), .val (.int (n : Int)), .val (.int (s : Int)), .val (.int (i : Int)), .un]) (hq _ _) hn (fun _ => rfl) fun i hi => ?_
    simp -implicitDefEqProofs only [ev_asD, ev_op1, c2 i hi, bind_ok, RV.d_own, tup_row (show ((List.range n).map fun j => xs.getD (i + j + s) 0).length ≤ 1000 by rw [List.length_map, List.length_range]; exact hn), RV.d_val]
    rfl
  unfold f_hankel_by S_hankel_by
  rw [ev_runF, hs]
  simp -implicitDefEqProofs only [ev_sRet, ev_op1, ev_asD, c1, bind_ok, RV.d_own, tup_rows (show (hank xs n s).length ≤ 1000 by unfold hank; rw [List.length_map, List.length_range]; exact hn), onR_ok, out_ret]
theorem square_rt {xs : List Rat} {n s : Nat} (h : 2 * n + s ≤ xs.length + 1) (hn : n ≤ 1000) : f__law_square_of [row xs, .int (n : Int), .int (s : Int)] st = .ok (.val (rows (hank xs n s))) st := by
  have hs : startE [("row" : Str), ("size" : Str), ("start" : Str), ("i" : Str), ("j" : Str)] [row xs, .int (n : Int), .int (s : Int)] = [.val (row xs), .val (.int (n : Int)), .val (.int (s : Int)), .un, .un] := rfl
  have hq : ∀ a b : Slot, (itR1 (vq 1)) [.val (row xs), .val (.int (n : Int)), .val (.int (s : Int)), a, b] st = .ok ((List.range n).map fun (i : Nat) => D.int (i : Int)) st := fun a b => by
    simp -implicitDefEqProofs only [ev_itR1, ev_vq, List.getElem?_cons_succ, List.getElem?_cons_zero, bind_ok]
    exact rng_ok n st (by omega)
  have c2 : ∀ i, i < n → (compE (itR1 (vq 1)) (.nm 4) (fun _ => pure true) (asD (op2 ixM (vq 0) (asD (op2 addA (asD (op2 addA (vq 3) (vq 4))) (vq 2))))) [4]) [.val (row xs), .val (.int (n : Int)), .val (.int (s : Int)), .val (.int (i : Int)), .un] st = .ok (.own (((List.range n).map fun j => xs.getD (i + j + s) 0).map rt)) st := fun i hi => by
    rw [List.map_map]
    refine comp_rng n _ (fun j => [.val (row xs), .val (.int (n : Int)), .val (.int (s : Int)), .val (.int (i : Int)), .val (.int (j : Int))]) (hq _ _) hn (fun _ => rfl) fun j hj => ?_
    have e : ((i : Int) + (j : Int) + (s : Int)) = ((i + j + s : Nat) : Int) := by omega
    simp -implicitDefEqProofs only [ev_asD, ev_op2, ev_vq, List.getElem?_cons_zero, List.getElem?_cons_succ, bind_ok, addA_ii, RV.d_val, e, ix_row (show i + j + s < xs.length by omega)]
    rfl
  have c1 : (compE (itR1 (vq 1)) (.nm 3) (fun _ => pure true) (asD (op1 tupleM (asD (compE (itR1 (vq 1)) (.nm 4) (fun _ => pure true) (asD (op2 ixM (vq 0) (asD (op2 addA (asD (op2 addA (vq 3) (vq 4))) (vq 2))))) [4])))) [3]) [.val (row xs), .val (.int (n : Int)), .val (.int (s : Int)), .un, .un] st = .ok (.own ((hank xs n s).map row)) st := by
    unfold hank
    rw [List.map_map]
    refine comp_rng n _ (fun i => [.val (row xs), .val (.int (n : Int)), .val (.int (s : Int)), .val (.int (i : Int)), .un]) (hq _ _) hn (fun _ => rfl) fun i hi => ?_
    simp -implicitDefEqProofs only [ev_asD, ev_op1, c2 i hi, bind_ok, RV.d_own, tup_row (show ((List.range n).map fun j => xs.getD (i + j + s) 0).length ≤ 1000 by rw [List.length_map, List.length_range]; exact hn), RV.d_val]
    rfl
  unfold f__law_square_of S__law_square_of
  rw [ev_runF, hs]
  simp -implicitDefEqProofs only [ev_sRet, ev_op1, ev_asD, c1, bind_ok, RV.d_own, tup_rows (show (hank xs n s).length ≤ 1000 by unfold hank; rw [List.length_map, List.length_range]; exact hn), onR_ok, out_ret]
theorem hankel_rt {xs : List Rat} {d : D} {m n s : Nat} (g : Gv xs d) (hb : ∀ x ∈ xs, Bd m x) (hm : m ≤ 8900) (h : 2 * n + s ≤ xs.length + 1) (h12 : xs.length ≤ 12) (hn1 : 1 ≤ n) (hn : n ≤ 6) (hs1 : s ≤ 1) : f_hankel [d, .int (n : Int), .int (s : Int)] st = .ok (.val (rows (hank xs n s))) st := by
  have r1 : f_row_from [d, .int 1, .int 12] st = .ok (.val (row xs)) st := row_from_rt g hb hm (lo := 1) (hi := 12) (by omega) h12 (by omega)
  have n1 : f_need_between [.str ("size" : Str), .int (n : Int), .int 1, .int 6] st = .ok (.val .non) st := need_ok _ (by omega) (by omega)
  have n2 : f_need_between [.str ("start" : Str), .int (s : Int), .int 0, .int 1] st = .ok (.val .non) st := need_ok _ (by omega) (by omega)
  have hk := hankel_by_rt (st := st) h (by omega)
  have hs : startE [("row" : Str), ("size" : Str), ("start" : Str), ("made" : Str)] [d, .int (n : Int), .int (s : Int)] = [.val d, .val (.int (n : Int)), .val (.int (s : Int)), .un] := rfl
  have w0 : (sSet 3 (callE 3 f_row_from (aC (vr 0) (aC (kk (.int 1)) (aC (kk (.int 12)) (aN)))))) [.val d, .val (.int (n : Int)), .val (.int (s : Int)), .un] st = .nx [.val d, .val (.int (n : Int)), .val (.int (s : Int)), .val (row xs)] st := by
    simp -implicitDefEqProofs only [ev_sSet, ev_callE, ev_aC, ev_vr, ev_kk, ev_aN, List.getElem?_cons_zero, List.getElem?_cons_succ, bind_ok, List.length_cons, List.length_nil, Nat.zero_add, Nat.reduceAdd, if_true, r1, onR_ok, slot_val, List.set_cons_succ, List.set_cons_zero]
    rw [if_pos (by decide)]
  have fz : frzL [3] [.val d, .val (.int (n : Int)), .val (.int (s : Int)), .val (row xs)] = [.val d, .val (.int (n : Int)), .val (.int (s : Int)), .val (row xs)] := rfl
  have m2 : mulM (.int 2) (.int (n : Int)) st = .ok (.val (.int (2 * (n : Int)))) st := by
    refine mul_b (i := 2) (j := 4) (by decide) (by rw [Int.natAbs_natCast]; omega) (by decide) (by decide) (by decide)
  have lt : decide ((xs.length : Int) < 2 * (n : Int) - 1 + (s : Int)) = false := decide_eq_false (by omega)
  unfold f_hankel S_hankel
  rw [ev_runF, hs, ev_sSeq, w0, seq_nx]
  unfold sFrz
  simp -implicitDefEqProofs only [ev_sSeq, ev_sExp, ev_callE, ev_aC, ev_vr, ev_vq, ev_kk, ev_aN, List.getElem?_cons_zero, List.getElem?_cons_succ, bind_ok, List.length_cons, List.length_nil, Nat.zero_add, Nat.reduceAdd, if_true, n1, n2, onR_ok, seq_nx, ev_sIf, ev_tstE, ev_op2, ev_op1, ev_asD, len_row, m2, RV.d_val, sub_ii, addA_ii, lt_ii, bl_ok, lt, Bool.false_eq_true, if_false, ev_sNil, fz, ev_sRet, hk, out_ret]
/-! ### turned about, along the diagonal -/
theorem turned_by_rt {xss : List (List Rat)} {m : Nat} (h1 : 1 ≤ xss.length) (hl : xss.length ≤ 1000) (hm : m ≤ 1000) (hw : ∀ xs ∈ xss, xs.length = m) : f_turned_by [rows xss] st = .ok (.val (rows (turn m xss))) st := by
  have hs : startE [("table" : Str), ("k" : Str), ("row" : Str)] [rows xss] = [.val (rows xss), .un, .un] := rfl
  have h0 : (xss.getD 0 []).length = m := by
    rw [List.getD_eq_getElem?_getD, List.getElem?_eq_getElem (by omega)]
    exact hw _ (List.getElem_mem _)
  have ix0 : ixM (rows xss) (.int 0) st = .ok (.val (row (xss.getD 0 []))) st := ix_rows (k := 0) (by omega)
  have hq : (itR1 (asD (op1 lenM (asD (op2 ixM (vq 0) (kk (.int 0))))))) [.val (rows xss), .un, .un] st = .ok ((List.range m).map fun (i : Nat) => D.int (i : Int)) st := by
    simp -implicitDefEqProofs only [ev_itR1, ev_asD, ev_op1, ev_op2, ev_vq, ev_kk, List.getElem?_cons_zero, bind_ok, ix0, RV.d_val, len_row, h0]
    exact rng_ok m st (by omega)
  have c2 : ∀ k, k < m → (compE (itS (vq 0)) (.nm 2) (fun _ => pure true) (asD (op2 ixM (vq 2) (vq 1))) [2]) [.val (rows xss), .val (.int (k : Int)), .un] st = .ok (.own ((xss.map fun r => r.getD k 0).map rt)) st := fun k hk => by
    rw [List.map_map]
    refine comp_seq row _ xss (fun r => [.val (rows xss), .val (.int (k : Int)), .val (row r)]) rfl hl (fun _ => rfl) fun r hr => ?_
    simp -implicitDefEqProofs only [ev_asD, ev_op2, ev_vq, List.getElem?_cons_zero, List.getElem?_cons_succ, bind_ok, ix_row (show k < r.length by rw [hw r hr]; exact hk), RV.d_val]
    rfl
  have c1 : (compE (itR1 (asD (op1 lenM (asD (op2 ixM (vq 0) (kk (.int 0))))))) (.nm 1) (fun _ => pure true) (asD (op1 tupleM (asD (compE (itS (vq 0)) (.nm 2) (fun _ => pure true) (asD (op2 ixM (vq 2) (vq 1))) [2])))) [1]) [.val (rows xss), .un, .un] st = .ok (.own ((turn m xss).map row)) st := by
    unfold turn
    rw [List.map_map]
    refine comp_rng m _ (fun k => [.val (rows xss), .val (.int (k : Int)), .un]) hq hm (fun _ => rfl) fun k hk => ?_
    simp -implicitDefEqProofs only [ev_asD, ev_op1, c2 k hk, bind_ok, RV.d_own, tup_row (show (xss.map fun r => r.getD k 0).length ≤ 1000 by rw [List.length_map]; exact hl), RV.d_val]
    rfl
  unfold f_turned_by S_turned_by
  rw [ev_runF, hs]
  simp -implicitDefEqProofs only [ev_sRet, ev_op1, ev_asD, c1, bind_ok, RV.d_own, tup_rows (show (turn m xss).length ≤ 1000 by unfold turn; rw [List.length_map, List.length_range]; exact hm), onR_ok, out_ret]
theorem diagonal_by_rt {xs : List Rat} (hl : xs.length ≤ 1000) : f_diagonal_by [row xs] st = .ok (.val (rows (diag xs))) st := by
  have hs : startE [("row" : Str), ("i" : Str), ("j" : Str)] [row xs] = [.val (row xs), .un, .un] := rfl
  have hq : ∀ a b : Slot, (itR1 (asD (op1 lenM (vq 0)))) [.val (row xs), a, b] st = .ok ((List.range xs.length).map fun (i : Nat) => D.int (i : Int)) st := fun a b => by
    simp -implicitDefEqProofs only [ev_itR1, ev_asD, ev_op1, ev_vq, List.getElem?_cons_zero, bind_ok, len_row, RV.d_val]
    exact rng_ok xs.length st (by omega)
  have c2 : ∀ i, i < xs.length → (compE (itR1 (asD (op1 lenM (vq 0)))) (.nm 2) (fun _ => pure true) (asD (ifR (tstE (op2 eqM (vq 1) (vq 2))) (op2 ixM (vq 0) (vq 1)) (asR (kk (.tup [.int (0), .int (1)]))))) [2]) [.val (row xs), .val (.int (i : Int)), .un] st = .ok (.own (((List.range xs.length).map fun j => if i = j then xs.getD i 0 else 0).map rt)) st := fun i hi => by
    rw [List.map_map]
    refine comp_rng xs.length _ (fun j => [.val (row xs), .val (.int (i : Int)), .val (.int (j : Int))]) (hq _ _) hl (fun _ => rfl) fun j hj => ?_
    by_cases e : i = j
    · subst e
      simp -implicitDefEqProofs only [ev_asD, ev_ifR, ev_tstE, ev_op2, ev_vq, List.getElem?_cons_zero, List.getElem?_cons_succ, bind_ok, eq_ii, bl_ok, beq_self_eq_true, if_true, ix_row hi, RV.d_val, Function.comp]
    · have ne : ((i : Int) == (j : Int)) = false := by
        have : ¬ ((i : Int) = (j : Int)) := by omega
        simpa using this
      simp -implicitDefEqProofs only [ev_asD, ev_asR, ev_ifR, ev_tstE, ev_op2, ev_vq, ev_kk, List.getElem?_cons_zero, List.getElem?_cons_succ, bind_ok, eq_ii, bl_ok, ne, Bool.false_eq_true, if_false, RV.d_val, Function.comp, e]
      rfl
  have c1 : (compE (itR1 (asD (op1 lenM (vq 0)))) (.nm 1) (fun _ => pure true) (asD (op1 tupleM (asD (compE (itR1 (asD (op1 lenM (vq 0)))) (.nm 2) (fun _ => pure true) (asD (ifR (tstE (op2 eqM (vq 1) (vq 2))) (op2 ixM (vq 0) (vq 1)) (asR (kk (.tup [.int (0), .int (1)]))))) [2])))) [1]) [.val (row xs), .un, .un] st = .ok (.own ((diag xs).map row)) st := by
    unfold diag
    rw [List.map_map]
    refine comp_rng xs.length _ (fun i => [.val (row xs), .val (.int (i : Int)), .un]) (hq _ _) hl (fun _ => rfl) fun i hi => ?_
    simp -implicitDefEqProofs only [ev_asD, ev_op1, c2 i hi, bind_ok, RV.d_own, tup_row (show ((List.range xs.length).map fun j => if i = j then xs.getD i 0 else 0).length ≤ 1000 by rw [List.length_map, List.length_range]; exact hl), RV.d_val]
    rfl
  unfold f_diagonal_by S_diagonal_by
  rw [ev_runF, hs]
  simp -implicitDefEqProofs only [ev_sRet, ev_op1, ev_asD, c1, bind_ok, RV.d_own, tup_rows (show (diag xs).length ≤ 1000 by unfold diag; rw [List.length_map, List.length_range]; exact hl), onR_ok, out_ret]
theorem diagonal_table_rt {xs : List Rat} {d : D} {n : Nat} (g : Gv xs d) (hb : ∀ x ∈ xs, Bd n x) (hn : n ≤ 8900) (h1 : 1 ≤ xs.length) (h6 : xs.length ≤ 6) : f_diagonal_table [d] st = .ok (.val (rows (diag xs))) st := by
  have r1 : f_row_from [d, .int 1, .int 6] st = .ok (.val (row xs)) st := row_from_rt g hb hn (lo := 1) (hi := 6) h1 h6 (by omega)
  have hs : startE [("row" : Str)] [d] = [.val d] := rfl
  unfold f_diagonal_table S_diagonal_table
  rw [ev_runF, hs]
  simp -implicitDefEqProofs only [ev_sRet, ev_callE, ev_aC, ev_vr, ev_kk, ev_asD, ev_aN, List.getElem?_cons_zero, bind_ok, List.length_cons, List.length_nil, Nat.zero_add, Nat.reduceAdd, if_true, r1, RV.d_val, diagonal_by_rt (st := st) (show xs.length ≤ 1000 by omega), onR_ok, out_ret]
end
end K78

set_option Elab.async false
set_option linter.all false
set_option maxRecDepth 100000
set_option maxHeartbeats 4000000
set_option exponentiation.threshold 20000
namespace K78
open PySem PySem.Spec PyProof.Rows L2 Dn Dn.Pa Dn.Rt
open Dn.Pen (penC PenI PenI.mono ev_compE lcM_nil lcM_cons lcM_all lcB_val all_true own_ok)
section
variable {st : Store}
/-! ### a table as it is told -/
theorem pair_6 (a b : Int) : f_r6_in_tuples [.tup [.int a, .int b]] st = .ok (.val (.tup [.int a, .int b])) st := by kernel_rfl
theorem seq_7 {ds : List D} {d : D} (hd : d = .tup ds ∨ d = .lst ds) (hl : ds.length ≤ 16777216) (h : ∀ d ∈ ds, f_r6_in_tuples [d] st = .ok (.val (tupd d)) st) : f_r7_in_tuples [d] st = .ok (.val (.tup (ds.map tupd))) st := by
  have hs : startE [("value" : Str), ("item" : Str)] [d] = [.val d, .un] := rfl
  have hi : isaM ["tuple", "list"] d st = .ok (.val (.bl true)) st := by rcases hd with rfl | rfl <;> rfl
  have hq : (itS (vq 0)) [.val d, .un] st = .ok ds st := by rcases hd with rfl | rfl <;> rfl
  have hc : (compE (itS (vq 0)) (.nm 1) (fun _ => pure true) (asD (callE 1 f_r6_in_tuples (aC (vr 1) (aN)))) [1]) [.val d, .un] st = .ok (.own (ds.map tupd)) st := by
    refine comp_ok hq hl ?_
    have := lcM_map (bd := lcB (.nm 1) (fun _ => pure true) (asD (callE 1 f_r6_in_tuples (aC (vr 1) (aN)))) (wipeE [.val d, .un] [1])) (st := st) _root_.id tupd (l := ds) fun a ha => by
      refine lcB_val (ρ' := [.val d, .val a]) rfl ?_
      simp -implicitDefEqProofs only [ev_asD, ev_callE, ev_aC, ev_vr, ev_aN, List.getElem?_cons_zero, List.getElem?_cons_succ, bind_ok, List.length_cons, List.length_nil, Nat.zero_add, if_true, h a ha, RV.d_val]
    rw [List.map_id] at this
    exact this
  unfold f_r7_in_tuples S_r7_in_tuples
  rw [ev_runF, hs]
  simp -implicitDefEqProofs only [ev_sSeq, ev_sIf, ev_notT, ev_truE, ev_asD, ev_op1, ev_vq, List.getElem?_cons_zero, bind_ok, hi, RV.d_val, tru_b, Bool.not_true, onR_ok, Bool.false_eq_true, if_false, ev_sNil, seq_nx, ev_sRet, hc, RV.d_own, tuple_l st (show (ds.map tupd).length ≤ 16777216 by rw [List.length_map]; exact hl), out_ret]

theorem row_7 (xs : List Rat) (hl : xs.length ≤ 1000) : f_r7_in_tuples [row xs] st = .ok (.val (row xs)) st := by
  have := seq_7 (st := st) (ds := xs.map rt) (d := row xs) (.inl rfl) (by rw [List.length_map]; omega) fun d hd => by
    obtain ⟨x, _, rfl⟩ := List.mem_map.mp hd
    exact pair_6 _ _
  rw [List.map_map] at this
  exact this
theorem rows_8 (xss : List (List Rat)) (hl : xss.length ≤ 1000) (hw : ∀ xs ∈ xss, xs.length ≤ 1000) : f_r8_in_tuples [rows xss] st = .ok (.val (rows xss)) st := by
  have := seq_8 (st := st) (ds := xss.map row) (d := rows xss) (.inl rfl) (by rw [List.length_map]; omega) fun d hd => by
    obtain ⟨xs, hx, rfl⟩ := List.mem_map.mp hd
    exact row_7 xs (hw xs hx)
  rw [List.map_map] at this
  exact this
theorem loose_told {xs : List Rat} {n : Nat} (hl : xs.length ≤ 1000) (hb : ∀ x ∈ xs, Bd n x) (hn : n ≤ 8900) : f_loose_row [row xs] st = .ok (.val (row xs)) st := by
  have hm : (xs.map fun x => (x, rt x)).map (·.1) = xs := by rw [List.map_map]; exact (List.map_congr_left fun _ _ => rfl).trans (List.map_id xs)
  have := loose_row_rt (st := st) (n := n) (xs.map fun x => (x, rt x)) (by rw [List.length_map]; omega) (fun p hp => by
    obtain ⟨x, _, rfl⟩ := List.mem_map.mp hp
    have := Hd.t (x := x) 1 (by decide) (by decide)
    simpa [rt] using this) (fun p hp => by
    obtain ⟨x, hx, rfl⟩ := List.mem_map.mp hp
    exact hb x hx) hn
  rw [hm, List.map_map] at this
  exact this
theorem none_in (xss : List (List Rat)) : inM false .non (.lst (xss.map row)) st = .ok (.val (.bl false)) st := by
  have hk : okE (.lst (xss.map row)) = true := by
    refine okE_nice (nice_map row nice_row xss) ?_
    have := dep_all row 4 dep_row xss
    simp only [D.py, PyData.depth]
    omega
  have hn : okE .non = true := rfl
  have ha : ∀ l : List (List Rat), ((D.pyAll (l.map row)).any fun z => PyData.eqv z (D.py .non)) = false := fun l => by
    induction l with
    | nil => rfl
    | cons x l ih =>
      rw [List.map_cons, D.pyAll, List.any_cons, ih]
      rfl
  have e : inO .non (.lst (xss.map row)) = some false := by
    show (if okE .non && okE (.lst (xss.map row)) then some _ else none) = _
    rw [hn, hk, ha]
    rfl
  unfold inM
  rw [e]
  rfl
def tf0 : SS := sSet 1 (callE 1 f_r8_in_tuples (aC (vr 0) (aN)))
def tf1 : SS := sIf (orT (notT (truE (asD (op1 (isaM ["tuple"]) (vq 1))))) (notT (tstE (chn leM leM (kk (.int 1)) (asD (op1 lenM (vq 1))) (kk (.int 6)))))) (sRaise 3 1 (aC (vr 0) (aN))) (sNil)
def tf2 : SS := sSet 2 (compE (itS (vq 1)) (.nm 3) (fun _ => pure true) (asD (callE 1 f_loose_row (aC (vr 3) (aN)))) [3])
def tf3 : SS := sIf (orT (tstE (op2 (inM false) (kk .non) (vq 2))) (orT (notT (tstE (chn leM leM (kk (.int 1)) (asD (op1 lenM (asD (op2 ixM (vq 2) (kk (.int 0)))))) (kk (.int 6))))) (notT (truE (asD (op1 allM (asD (compE (itS (vq 2)) (.nm 3) (fun _ => pure true) (asD (op2 eqM (asD (op1 lenM (vq 3))) (asD (op1 lenM (asD (op2 ixM (vq 2) (kk (.int 0)))))))) [3])))))))) (sRaise 3 1 (aC (vr 0) (aN))) (sNil)
def tf4 : SS := sRet (op1 tupleM (vq 2))
theorem table_from_eq : S_table_from = sSeq tf0 (sSeq tf1 (sSeq tf2 (sSeq tf3 tf4))) := rfl
theorem table_from_rt {xss : List (List Rat)} {m n : Nat} (h1 : 1 ≤ xss.length) (h6 : xss.length ≤ 6) (hw : ∀ xs ∈ xss, xs.length = m) (m1 : 1 ≤ m) (m6 : m ≤ 6) (hb : ∀ xs ∈ xss, ∀ x ∈ xs, Bd n x) (hn : n ≤ 8900) : f_table_from [rows xss] st = .ok (.val (rows xss)) st := by
  have hs : startE [("table" : Str), ("made" : Str), ("rows" : Str), ("row" : Str)] [rows xss] = [.val (rows xss), .un, .un, .un] := rfl
  have r8 := rows_8 (st := st) xss (by omega) fun xs hx => by rw [hw xs hx]; omega
  have w0 : tf0 [.val (rows xss), .un, .un, .un] st = .nx [.val (rows xss), .val (rows xss), .un, .un] st := by
    unfold tf0
    simp -implicitDefEqProofs only [ev_sSet, ev_callE, ev_aC, ev_vr, ev_aN, List.getElem?_cons_zero, bind_ok, List.length_cons, List.length_nil, Nat.zero_add, if_true, r8, onR_ok, slot_val, List.set_cons_succ, List.set_cons_zero]
    rw [if_pos (by decide)]
  have i1 : isaM ["tuple"] (rows xss) st = .ok (.val (.bl true)) st := rfl
  have a1 : decide ((1 : Int) ≤ (xss.length : Int)) = true := decide_eq_true (by omega)
  have a2 : decide ((xss.length : Int) ≤ 6) = true := decide_eq_true (by omega)
  have w1 : tf1 [.val (rows xss), .val (rows xss), .un, .un] st = .nx [.val (rows xss), .val (rows xss), .un, .un] st := by
    unfold tf1
    simp -implicitDefEqProofs only [ev_sIf, ev_orT, ev_notT, ev_truE, ev_tstE, ev_chn, ev_asD, ev_op1, ev_vq, ev_kk, List.getElem?_cons_zero, List.getElem?_cons_succ, bind_ok, i1, RV.d_val, tru_b, Bool.not_true, Bool.false_eq_true, if_false, len_rows, le_ii, bl_ok, a1, a2, if_true, onR_ok, ev_sNil]
  have c2 : (compE (itS (vq 1)) (.nm 3) (fun _ => pure true) (asD (callE 1 f_loose_row (aC (vr 3) (aN)))) [3]) [.val (rows xss), .val (rows xss), .un, .un] st = .ok (.own (xss.map row)) st := by
    refine comp_seq row _ xss (fun r => [.val (rows xss), .val (rows xss), .un, .val (row r)]) rfl (by omega) (fun _ => rfl) fun r hr => ?_
    simp -implicitDefEqProofs only [ev_asD, ev_callE, ev_aC, ev_vr, ev_aN, List.getElem?_cons_zero, List.getElem?_cons_succ, bind_ok, List.length_cons, List.length_nil, Nat.zero_add, if_true, loose_told (st := st) (show r.length ≤ 1000 by rw [hw r hr]; omega) (hb r hr) hn, RV.d_val]
  have w2 : tf2 [.val (rows xss), .val (rows xss), .un, .un] st = .nx [.val (rows xss), .val (rows xss), .own (xss.map row), .un] st := by
    unfold tf2
    rw [ev_sSet, c2, onR_ok]
    rfl
  have h0 : (xss.getD 0 []).length = m := by
    rw [List.getD_eq_getElem?_getD, List.getElem?_eq_getElem (by omega)]
    exact hw _ (List.getElem_mem _)
  have ix0 : ixM (.lst (xss.map row)) (.int 0) st = .ok (.val (row (xss.getD 0 []))) st := by
    refine ix_l st (by omega) ?_
    show (xss.map row)[0]? = _
    rw [List.getElem?_map, List.getD_eq_getElem?_getD, List.getElem?_eq_getElem (by omega)]
    rfl
  have b1 : decide ((1 : Int) ≤ (m : Int)) = true := decide_eq_true (by omega)
  have b2 : decide ((m : Int) ≤ 6) = true := decide_eq_true (by omega)
  have c3 : (compE (itS (vq 2)) (.nm 3) (fun _ => pure true) (asD (op2 eqM (asD (op1 lenM (vq 3))) (asD (op1 lenM (asD (op2 ixM (vq 2) (kk (.int 0)))))))) [3]) [.val (rows xss), .val (rows xss), .own (xss.map row), .un] st = .ok (.own (xss.map fun _ => D.bl true)) st := by
    refine comp_seq row _ xss (fun r => [.val (rows xss), .val (rows xss), .own (xss.map row), .val (row r)]) rfl (by omega) (fun _ => rfl) fun r hr => ?_
    simp -implicitDefEqProofs only [ev_asD, ev_op1, ev_op2, ev_vq, ev_kk, List.getElem?_cons_zero, List.getElem?_cons_succ, bind_ok, len_row, ix0, RV.d_val, h0, hw r hr, eq_ii, beq_self_eq_true]
  have w3 : tf3 [.val (rows xss), .val (rows xss), .own (xss.map row), .un] st = .nx [.val (rows xss), .val (rows xss), .own (xss.map row), .un] st := by
    unfold tf3
    simp -implicitDefEqProofs only [ev_sIf, ev_orT, ev_notT, ev_truE, ev_tstE, ev_chn, ev_asD, ev_op1, ev_op2, ev_vq, ev_kk, List.getElem?_cons_zero, List.getElem?_cons_succ, bind_ok, none_in, bl_ok, Bool.false_eq_true, if_false, ix0, RV.d_val, len_row, h0, le_ii, b1, b2, if_true, Bool.not_true, c3, RV.d_own, all_true, tru_b, onR_ok, ev_sNil]
  have w4 : tf4 [.val (rows xss), .val (rows xss), .own (xss.map row), .un] st = .ret (.val (rows xss)) st := by
    unfold tf4
    simp -implicitDefEqProofs only [ev_sRet, ev_op1, ev_vq, List.getElem?_cons_zero, List.getElem?_cons_succ, bind_ok, tup_rows (st := st) (show xss.length ≤ 1000 by omega), onR_ok]
  unfold f_table_from
  rw [ev_runF, hs, table_from_eq, ev_sSeq, w0, seq_nx, ev_sSeq, w1, seq_nx, ev_sSeq, w2, seq_nx, ev_sSeq, w3, seq_nx, w4, out_ret]
/-! ### products -/
def dStep : SS := sIf (andT (tstE (op2 neM (vq 3) (kk (.tup [.int (0), .int (1)])))) (tstE (op2 neM (vq 4) (kk (.tup [.int (0), .int (1)]))))) (sFrz [2] (sSet 2 (callE 2 f_summed (aC (vr 2) (aC (asD (callE 2 f_scaled (aC (vr 3) (aC (vr 4) (aN))))) (aN)))))) (sNil)
theorem dot_step {a0 a1 : Slot} {o x y : Rat} {k p q : Nat} (ho : Bd k o) (hx : Bd p x) (hy : Bd q y) (h : k + (p + q) ≤ 8999) : dStep [a0, a1, .val (rt o), .val (rt x), .val (rt y)] st = .nx [a0, a1, .val (rt (dotS o (x, y))), .val (rt x), .val (rt y)] st := by
  have fz : frzL [2] [a0, a1, .val (rt o), .val (rt x), .val (rt y)] = [a0, a1, .val (rt o), .val (rt x), .val (rt y)] := rfl
  have sc : f_scaled [rt x, rt y] st = .ok (.val (rt (x * y))) st := scaled_rt hx hy (by omega)
  have sm : f_summed [rt o, rt (x * y)] st = .ok (.val (rt (o + x * y))) st := summed_rt ho (hx.mul hy) h
  unfold dStep dotS sFrz
  by_cases h1 : x = 0
  · subst h1
    simp -implicitDefEqProofs only [ev_sIf, ev_andT, ev_tstE, ev_op2, ev_vq, ev_kk, List.getElem?_cons_zero, List.getElem?_cons_succ, bind_ok, ne_none, ne_eq, not_true_eq_false, decide_false, bl_ok, Bool.false_eq_true, if_false, onR_ok, ev_sNil, false_and]
  · by_cases h2 : y = 0
    · subst h2
      simp -implicitDefEqProofs only [ev_sIf, ev_andT, ev_tstE, ev_op2, ev_vq, ev_kk, List.getElem?_cons_zero, List.getElem?_cons_succ, bind_ok, ne_none, ne_eq, h1, not_false_eq_true, not_true_eq_false, decide_false, decide_true, if_true, bl_ok, Bool.false_eq_true, if_false, onR_ok, ev_sNil, and_false]
    · simp -implicitDefEqProofs only [ev_sIf, ev_andT, ev_tstE, ev_op2, ev_vq, ev_vr, ev_kk, ev_asD, ev_callE, ev_aC, ev_aN, ev_sSet, fz, List.getElem?_cons_zero, List.getElem?_cons_succ, bind_ok, ne_none, ne_eq, h1, h2, not_false_eq_true, decide_true, if_true, bl_ok, onR_ok, and_self, List.length_cons, List.length_nil, Nat.zero_add, Nat.reduceAdd, sc, RV.d_val, sm, slot_val, List.set_cons_succ, List.set_cons_zero]
      rw [if_pos (by decide)]
theorem dotS_bd {o : Rat} {x y : Rat} {k p q : Nat} (ho : Bd k o) (hx : Bd p x) (hy : Bd q y) : Bd (k + (p + q + 1)) (dotS o (x, y)) := by
  unfold dotS
  split
  · exact (ho.add (hx.mul hy)).mono (by omega)
  · exact ho.mono (by omega)
theorem dot_loop {a0 a1 : Slot} {p q : Nat} : ∀ (l : List (Rat × Rat)) (o : Rat) (k : Nat) (s3 s4 : Slot), (∀ z ∈ l, Bd p z.1 ∧ Bd q z.2) → Bd k o → k + (p + q + 1) * l.length + (p + q) ≤ 8999 →
    ∃ t3 t4, Dn.forM (.tp [3, 4]) dStep (l.map fun z => D.tup [rt z.1, rt z.2]) [a0, a1, .val (rt o), s3, s4] st = .nx [a0, a1, .val (rt (l.foldl dotS o)), t3, t4] st
  | [], o, k, s3, s4, _, _, _ => ⟨s3, s4, rfl⟩
  | z :: l, o, k, s3, s4, hz, ho, hk => by
    have e : (p + q + 1) * (z :: l).length = (p + q + 1) * l.length + (p + q + 1) := by rw [List.length_cons, Nat.mul_add, Nat.mul_one]
    rw [e] at hk
    obtain ⟨h1, h2⟩ := hz z (by simp)
    obtain ⟨t3, t4, e1⟩ := dot_loop (a0 := a0) (a1 := a1) l (dotS o z) (k + (p + q + 1)) (.val (rt z.1)) (.val (rt z.2)) (fun w hw => hz w (by simp [hw])) (dotS_bd ho h1 h2) (by omega)
    refine ⟨t3, t4, ?_⟩
    rw [List.map_cons, Dn.forM]
    have ep : (Tg.tp [3, 4]).put (.tup [rt z.1, rt z.2]) [a0, a1, .val (rt o), s3, s4] = some [a0, a1, .val (rt o), .val (rt z.1), .val (rt z.2)] := rfl
    have es := dot_step (st := st) (a0 := a0) (a1 := a1) ho h1 h2 (by omega)
    simp only [ep, es, e1]
    rfl
theorem dot_rt {xs ys : List Rat} {p q : Nat} (hx : ∀ x ∈ xs, Bd p x) (hy : ∀ y ∈ ys, Bd q y) (h : 1 + (p + q + 1) * xs.length + (p + q) ≤ 8999) : f_dot_of [row xs, row ys] st = .ok (.val (rt (dot xs ys))) st := by
  have hs : startE [("one" : Str), ("other" : Str), ("out" : Str), ("a" : Str), ("b" : Str)] [row xs, row ys] = [.val (row xs), .val (row ys), .un, .un, .un] := rfl
  have hlen : (xs.zip ys).length ≤ xs.length := by rw [List.length_zip]; omega
  have hm : (p + q + 1) * (xs.zip ys).length ≤ (p + q + 1) * xs.length := Nat.mul_le_mul_left _ hlen
  obtain ⟨t3, t4, e⟩ := dot_loop (st := st) (a0 := .val (row xs)) (a1 := .val (row ys)) (p := p) (q := q) (xs.zip ys) 0 1 .un .un (fun z hz => ⟨hx _ (List.of_mem_zip hz).1, hy _ (List.of_mem_zip hz).2⟩) Bd.zero (by omega)
  have w0 : (sSet 2 (asR (kk (.tup [.int (0), .int (1)])))) [.val (row xs), .val (row ys), .un, .un, .un] st = .nx [.val (row xs), .val (row ys), .val (rt 0), .un, .un] st := rfl
  have hq : (itZA (vr 0) (vr 1)) [.val (row xs), .val (row ys), .val (rt 0), .un, .un] st = .ok ((xs.zip ys).map fun z => D.tup [rt z.1, rt z.2]) st := by
    rw [← zw_pairs]
    rfl
  have e3 : S_dot_of = sSeq (sSet 2 (asR (kk (.tup [.int (0), .int (1)])))) (sSeq (sFor (itZA (vr 0) (vr 1)) (.tp [3, 4]) dStep) (sRetO 2)) := rfl
  unfold f_dot_of
  rw [ev_runF, hs, e3, ev_sSeq, w0, seq_nx, ev_sSeq, ev_sFor, hq, onR_ok, e, seq_nx]
  rfl
theorem product_by_rt {xss yss : List (List Rat)} {m w p q : Nat} (x1 : xss.length ≤ 1000) (hx : ∀ r ∈ xss, r.length = w ∧ ∀ x ∈ r, Bd p x) (y1 : 1 ≤ yss.length) (y2 : yss.length ≤ 1000) (hm : m ≤ 1000) (hy : ∀ r ∈ yss, r.length = m ∧ ∀ y ∈ r, Bd q y) (h : 1 + (p + q + 1) * w + (p + q) ≤ 8999) :
    f_product_by [rows xss, rows yss] st = .ok (.val (rows (mulT xss yss m))) st := by
  have hs : startE [("one" : Str), ("other" : Str), ("columns" : Str), ("row" : Str), ("column" : Str)] [rows xss, rows yss] = [.val (rows xss), .val (rows yss), .un, .un, .un] := rfl
  have tb := turned_by_rt (st := st) y1 y2 hm fun r hr => (hy r hr).1
  have htb : ∀ c ∈ turn m yss, ∀ y ∈ c, Bd q y := fun c hc y hyc => by
    unfold turn at hc
    obtain ⟨k, hk, rfl⟩ := List.mem_map.mp hc
    obtain ⟨r, hr, rfl⟩ := List.mem_map.mp hyc
    have hkl : k < r.length := by rw [(hy r hr).1]; exact List.mem_range.mp hk
    rw [List.getD_eq_getElem?_getD, List.getElem?_eq_getElem hkl]
    exact (hy r hr).2 _ (List.getElem_mem _)
  have ltb : (turn m yss).length = m := by unfold turn; rw [List.length_map, List.length_range]
  have w0 : (sSet 2 (callE 1 f_turned_by (aC (vr 1) (aN)))) [.val (rows xss), .val (rows yss), .un, .un, .un] st = .nx [.val (rows xss), .val (rows yss), .val (rows (turn m yss)), .un, .un] st := by
    simp -implicitDefEqProofs only [ev_sSet, ev_callE, ev_aC, ev_vr, ev_aN, List.getElem?_cons_zero, List.getElem?_cons_succ, bind_ok, List.length_cons, List.length_nil, Nat.zero_add, if_true, tb, onR_ok, slot_val, List.set_cons_succ, List.set_cons_zero]
    rw [if_pos (by decide)]
  have c2 : ∀ r ∈ xss, (compE (itS (vq 2)) (.nm 4) (fun _ => pure true) (asD (callE 2 f_dot_of (aC (vr 3) (aC (vr 4) (aN))))) [4]) [.val (rows xss), .val (rows yss), .val (rows (turn m yss)), .val (row r), .un] st = .ok (.own (((turn m yss).map fun c => dot r c).map rt)) st := fun r hr => by
    rw [List.map_map]
    refine comp_seq row _ (turn m yss) (fun c => [.val (rows xss), .val (rows yss), .val (rows (turn m yss)), .val (row r), .val (row c)]) rfl (by omega) (fun _ => rfl) fun c hc => ?_
    have := dot_rt (st := st) (hx r hr).2 (htb c hc) (by rw [(hx r hr).1]; exact h)
    simp -implicitDefEqProofs only [ev_asD, ev_callE, ev_aC, ev_vr, ev_aN, List.getElem?_cons_zero, List.getElem?_cons_succ, bind_ok, List.length_cons, List.length_nil, Nat.zero_add, Nat.reduceAdd, if_true, this, RV.d_val]
    rfl
  have c1 : (compE (itS (vq 0)) (.nm 3) (fun _ => pure true) (asD (op1 tupleM (asD (compE (itS (vq 2)) (.nm 4) (fun _ => pure true) (asD (callE 2 f_dot_of (aC (vr 3) (aC (vr 4) (aN))))) [4])))) [3]) [.val (rows xss), .val (rows yss), .val (rows (turn m yss)), .un, .un] st = .ok (.own ((mulT xss yss m).map row)) st := by
    unfold mulT
    rw [List.map_map]
    refine comp_seq row _ xss (fun r => [.val (rows xss), .val (rows yss), .val (rows (turn m yss)), .val (row r), .un]) rfl x1 (fun _ => rfl) fun r hr => ?_
    simp -implicitDefEqProofs only [ev_asD, ev_op1, c2 r hr, bind_ok, RV.d_own, tup_row (st := st) (show ((turn m yss).map fun c => dot r c).length ≤ 1000 by rw [List.length_map, ltb]; exact hm), RV.d_val]
    rfl
  unfold f_product_by S_product_by
  rw [ev_runF, hs, ev_sSeq, w0, seq_nx]
  simp -implicitDefEqProofs only [ev_sRet, ev_op1, ev_asD, c1, bind_ok, RV.d_own, tup_rows (st := st) (show (mulT xss yss m).length ≤ 1000 by unfold mulT; rw [List.length_map]; exact x1), onR_ok, out_ret]
theorem product_rt {xss yss : List (List Rat)} {m w p q : Nat} (x1 : 1 ≤ xss.length) (x6 : xss.length ≤ 6) (hx : ∀ r ∈ xss, r.length = w ∧ ∀ x ∈ r, Bd p x) (w1 : 1 ≤ w) (w6 : w ≤ 6) (hwy : yss.length = w) (m1 : 1 ≤ m) (m6 : m ≤ 6) (hy : ∀ r ∈ yss, r.length = m ∧ ∀ y ∈ r, Bd q y) (h : 1 + (p + q + 1) * w + (p + q) ≤ 8800) :
    f_product [rows xss, rows yss] st = .ok (.val (rows (mulT xss yss m))) st := by
  have hs : startE [("one" : Str), ("other" : Str), ("first" : Str), ("second" : Str)] [rows xss, rows yss] = [.val (rows xss), .val (rows yss), .un, .un] := rfl
  have t1 := table_from_rt (st := st) x1 x6 (fun r hr => (hx r hr).1) w1 w6 (fun r hr => (hx r hr).2) (show p ≤ 8900 by omega)
  have t2 := table_from_rt (st := st) (xss := yss) (by omega) (by omega) (fun r hr => (hy r hr).1) m1 m6 (fun r hr => (hy r hr).2) (show q ≤ 8900 by omega)
  have pb := product_by_rt (st := st) (m := m) (by omega) hx (by omega) (by omega) (by omega) hy (show 1 + (p + q + 1) * w + (p + q) ≤ 8999 by omega)
  have h0 : (xss.getD 0 []).length = w := by
    rw [List.getD_eq_getElem?_getD, List.getElem?_eq_getElem (by omega)]
    exact (hx _ (List.getElem_mem _)).1
  have ix0 : ixM (rows xss) (.int 0) st = .ok (.val (row (xss.getD 0 []))) st := ix_rows (k := 0) (by omega)
  have ww : neM (.int (w : Int)) (.int (w : Int)) st = .ok (.val (.bl false)) st := by rw [ne_ii]; simp
  unfold f_product S_product
  rw [ev_runF, hs]
  simp -implicitDefEqProofs only [ev_sSeq, ev_sPar, ev_asD, ev_callE, ev_aC, ev_vr, ev_vq, ev_kk, ev_aN, List.getElem?_cons_zero, List.getElem?_cons_succ, bind_ok, List.length_cons, List.length_nil, Nat.zero_add, Nat.reduceAdd, if_true, t1, t2, RV.d_val, onR_ok, List.set_cons_succ, List.set_cons_zero]
  rw [if_pos (by decide), seq_nx]
  simp -implicitDefEqProofs only [ev_sSeq, ev_sIf, ev_tstE, ev_op2, ev_op1, ev_asD, ev_callE, ev_aC, ev_vr, ev_vq, ev_kk, ev_aN, List.getElem?_cons_zero, List.getElem?_cons_succ, bind_ok, List.length_cons, List.length_nil, Nat.zero_add, Nat.reduceAdd, if_true, ix0, RV.d_val, len_row, len_rows, h0, hwy, ww, bl_ok, Bool.false_eq_true, if_false, onR_ok, ev_sNil, seq_nx, ev_sRet, pb, out_ret]
theorem turned_rt {xss : List (List Rat)} {m n : Nat} (h1 : 1 ≤ xss.length) (h6 : xss.length ≤ 6) (hw : ∀ xs ∈ xss, xs.length = m) (m1 : 1 ≤ m) (m6 : m ≤ 6) (hb : ∀ xs ∈ xss, ∀ x ∈ xs, Bd n x) (hn : n ≤ 8900) : f_turned [rows xss] st = .ok (.val (rows (turn m xss))) st := by
  have t1 := table_from_rt (st := st) h1 h6 hw m1 m6 hb hn
  have tb := turned_by_rt (st := st) h1 (by omega) (show m ≤ 1000 by omega) hw
  have hs : startE [("table" : Str)] [rows xss] = [.val (rows xss)] := rfl
  unfold f_turned S_turned
  rw [ev_runF, hs]
  simp -implicitDefEqProofs only [ev_sRet, ev_callE, ev_aC, ev_vr, ev_asD, ev_aN, List.getElem?_cons_zero, bind_ok, List.length_cons, List.length_nil, Nat.zero_add, if_true, t1, RV.d_val, tb, onR_ok, out_ret]
end
end K78

set_option Elab.async false
set_option linter.all false
set_option maxRecDepth 100000
set_option maxHeartbeats 4000000
set_option exponentiation.threshold 20000
namespace K78
open PySem PySem.Spec PyProof.Rows L2 Dn Dn.Pa Dn.Rt
/-! ### sums by index -/
def S (f : Nat → Rat) : Nat → Rat
  | 0 => 0
  | n + 1 => S f n + f n
theorem S_congr {f g : Nat → Rat} : ∀ {n : Nat}, (∀ k, k < n → f k = g k) → S f n = S g n
  | 0, _ => rfl
  | n + 1, h => by
    show S f n + f n = S g n + g n
    rw [S_congr fun k hk => h k (by omega), h n (by omega)]
theorem S_mul (c : Rat) (f : Nat → Rat) : ∀ n : Nat, S (fun k => c * f k) n = c * S f n
  | 0 => by show (0 : Rat) = c * 0; grind
  | n + 1 => by
    show S (fun k => c * f k) n + c * f n = c * (S f n + f n)
    rw [S_mul c f n]; grind
theorem S_zero {f : Nat → Rat} : ∀ {n : Nat}, (∀ k, k < n → f k = 0) → S f n = 0
  | 0, _ => rfl
  | n + 1, h => by
    show S f n + f n = 0
    rw [S_zero fun k hk => h k (by omega), h n (by omega)]; grind
theorem S_one {f : Nat → Rat} {i : Nat} : ∀ {n : Nat}, i < n → (∀ k, k < n → k ≠ i → f k = 0) → S f n = f i
  | 0, h, _ => by omega
  | n + 1, h, hz => by
    show S f n + f n = f i
    by_cases e : i = n
    · subst e
      rw [S_zero fun k hk => hz k (by omega) (by omega)]; grind
    · rw [S_one (n := n) (by omega) fun k hk => hz k (by omega), hz n (by omega) (by omega)]; grind
theorem S_split (f : Nat → Rat) (a : Nat) : ∀ b : Nat, S f (a + b) = S f a + S (fun k => f (a + k)) b
  | 0 => by show S f a = S f a + 0; grind
  | b + 1 => by
    show S f (a + b) + f (a + b) = S f a + (S (fun k => f (a + k)) b + f (a + b))
    rw [S_split f a b]; grind
theorem S_tail (f : Nat → Rat) : ∀ n, S f (n + 1) = f 0 + S (fun k => f (k + 1)) n
  | 0 => by show (0 : Rat) + f 0 = f 0 + 0; grind
  | n + 1 => by
    show S f (n + 1) + f (n + 1) = f 0 + (S (fun k => f (k + 1)) n + f (n + 1))
    rw [S_tail f n]; grind
theorem fold_S : ∀ (l : List Rat) (o : Rat), l.foldl (· + ·) o = o + S (fun k => l.getD k 0) l.length
  | [], o => by show o = o + 0; grind
  | x :: l, o => by
    have e : S (fun k => (x :: l).getD k 0) (x :: l).length = x + S (fun k => l.getD k 0) l.length := S_tail _ _
    rw [List.foldl_cons, fold_S l (o + x), e]; grind
theorem sumR_S (l : List Rat) : sumR l = S (fun k => l.getD k 0) l.length := by
  unfold sumR; rw [fold_S]; grind
theorem dotS_is (o : Rat) (p : Rat × Rat) : dotS o p = o + p.1 * p.2 := by
  unfold dotS
  split
  · rfl
  · rename_i h
    by_cases h1 : p.1 = 0
    · rw [h1]; grind
    · have h2 : p.2 = 0 := by
        by_cases h2 : p.2 = 0
        · exact h2
        · exact (h ⟨h1, h2⟩).elim
      rw [h2]; grind
theorem dotf_S : ∀ (xs ys : List Rat) (o : Rat), xs.length = ys.length → (xs.zip ys).foldl dotS o = o + S (fun k => xs.getD k 0 * ys.getD k 0) xs.length
  | [], [], o, _ => by show o = o + 0; grind
  | x :: xs, y :: ys, o, h => by
    have e : S (fun k => (x :: xs).getD k 0 * (y :: ys).getD k 0) (x :: xs).length = x * y + S (fun k => xs.getD k 0 * ys.getD k 0) xs.length := S_tail _ _
    rw [List.zip_cons_cons, List.foldl_cons, dotf_S xs ys _ (by simpa using h), e, dotS_is]; grind
  | [], _ :: _, _, h => by simp at h
  | _ :: _, [], _, h => by simp at h
theorem dot_S {xs ys : List Rat} (h : xs.length = ys.length) : dot xs ys = S (fun k => xs.getD k 0 * ys.getD k 0) xs.length := by
  unfold dot; rw [dotf_S xs ys 0 h]; grind
theorem getD_zw {xs ys : List Rat} {k : Nat} (h1 : k < xs.length) (h2 : k < ys.length) : (List.zipWith (· * ·) xs ys).getD k 0 = xs.getD k 0 * ys.getD k 0 := by
  simp [List.getD_eq_getElem?_getD, List.getElem?_zipWith, List.getElem?_eq_getElem h1, List.getElem?_eq_getElem h2]
theorem getD_mr {α : Type} {d : α} (f : Nat → α) {n k : Nat} (h : k < n) : ((List.range n).map f).getD k d = f k := by
  simp [List.getD_eq_getElem?_getD, List.getElem?_map, List.getElem?_range h]
theorem getD_mp {f : Rat → Rat} {xs : List Rat} {k : Nat} (h : k < xs.length) : (xs.map f).getD k 0 = f (xs.getD k 0) := by
  simp [List.getD_eq_getElem?_getD, List.getElem?_map, List.getElem?_eq_getElem h]
theorem heres_at {ps ws : List Rat} (h : ws.length = ps.length) {k : Nat} (hk : k < ps.length) : ∀ m, (heres ps ws m).getD k 0 = ws.getD k 0 * (ps.getD k 0) ^ m
  | 0 => by show ws.getD k 0 = ws.getD k 0 * _; rw [Rat.pow_zero]; grind
  | m + 1 => by
    show (List.zipWith (· * ·) (heres ps ws m) ps).getD k 0 = _
    rw [getD_zw (by rw [heres_len h]; exact hk) hk, heres_at h hk m, Rat.pow_succ]; grind
theorem sum_heres {ps ws : List Rat} (h : ws.length = ps.length) (m : Nat) : sumR (heres ps ws m) = S (fun k => ws.getD k 0 * (ps.getD k 0) ^ m) ps.length := by
  rw [sumR_S, heres_len h]
  exact S_congr fun k hk => heres_at h hk m
theorem pow_add' (x : Rat) (a : Nat) : ∀ b : Nat, x ^ (a + b) = x ^ a * x ^ b
  | 0 => by rw [Nat.add_zero, Rat.pow_zero]; grind
  | b + 1 => by rw [← Nat.add_assoc, Rat.pow_succ, pow_add' x a b, Rat.pow_succ]; grind
theorem mul_pow' (x y : Rat) : ∀ n : Nat, (x * y) ^ n = x ^ n * y ^ n
  | 0 => by rw [Rat.pow_zero, Rat.pow_zero, Rat.pow_zero]; grind
  | n + 1 => by rw [Rat.pow_succ, mul_pow' x y n, Rat.pow_succ, Rat.pow_succ]; grind
end K78

set_option Elab.async false
set_option linter.all false
set_option maxRecDepth 100000
set_option maxHeartbeats 4000000
set_option exponentiation.threshold 20000
namespace K78
open PySem PySem.Spec PyProof.Rows L2 Dn Dn.Pa Dn.Rt
open Dn.Pen (penC PenI PenI.mono ev_compE lcM_nil lcM_cons lcM_all lcB_val all_true own_ok)
/-! ### what the law asks of them, in rational numbers -/
def pows (ps : List Rat) (n : Nat) : List (List Rat) := ps.map fun p => (List.range n).map fun k => p ^ k
def ledR (ps ws : List Rat) (s : Nat) : List Rat := if s = 1 then List.zipWith (· * ·) ws ps else ws
theorem led_len {ps ws : List Rat} (h : ws.length = ps.length) (s : Nat) : (ledR ps ws s).length = ps.length := by
  unfold ledR; split
  · rw [List.length_zipWith]; omega
  · exact h
theorem led_at {ps ws : List Rat} (h : ws.length = ps.length) {s k : Nat} (hs : s ≤ 1) (hk : k < ps.length) : (ledR ps ws s).getD k 0 = ws.getD k 0 * (ps.getD k 0) ^ s := by
  unfold ledR
  by_cases e : s = 1
  · subst e
    rw [if_pos rfl, getD_zw (by omega) hk, show (1 : Nat) = 0 + 1 from rfl, Rat.pow_succ, Rat.pow_zero]; grind
  · have : s = 0 := by omega
    subst this
    rw [if_neg (by decide), Rat.pow_zero]; grind
theorem turn_pows (ps : List Rat) (n : Nat) : turn n (pows ps n) = (List.range n).map fun i => ps.map fun p => p ^ i := by
  unfold turn pows
  refine List.map_congr_left fun i hi => ?_
  rw [List.map_map]
  exact List.map_congr_left fun p _ => getD_mr _ (List.mem_range.mp hi)
theorem col_diag (xs : List Rat) : turn xs.length (diag xs) = diag xs := by
  unfold turn diag
  refine List.map_congr_left fun k hk => ?_
  rw [List.map_map]
  refine List.map_congr_left fun i hi => ?_
  show ((List.range xs.length).map fun j => if i = j then xs.getD i 0 else 0).getD k 0 = _
  rw [getD_mr _ (List.mem_range.mp hk)]
  by_cases e : i = k
  · subst e; rw [if_pos rfl]
  · rw [if_neg e, if_neg fun z => e z.symm]
theorem first_prod {ps ws : List Rat} (h : ws.length = ps.length) {n s : Nat} (hs : s ≤ 1) : mulT (turn n (pows ps n)) (diag (ledR ps ws s)) ps.length = (List.range n).map fun i => (List.range ps.length).map fun k => ps.getD k 0 ^ i * (ws.getD k 0 * ps.getD k 0 ^ s) := by
  have hl := led_len h s
  unfold mulT
  rw [show turn ps.length (diag (ledR ps ws s)) = diag (ledR ps ws s) by rw [← hl]; exact col_diag _, turn_pows, List.map_map]
  refine List.map_congr_left fun i hi => ?_
  show (diag (ledR ps ws s)).map (fun c => dot (ps.map fun p => p ^ i) c) = _
  unfold diag
  rw [List.map_map, hl]
  refine List.map_congr_left fun k hk => ?_
  have hk := List.mem_range.mp hk
  show dot (ps.map fun p => p ^ i) ((List.range ps.length).map fun j => if k = j then (ledR ps ws s).getD k 0 else 0) = _
  rw [dot_S (by simp), List.length_map, S_one (i := k) hk, getD_mp hk, getD_mr _ hk, if_pos rfl, led_at h hs hk]
  intro j hj hne
  rw [getD_mr _ hj, if_neg fun z => hne z.symm]; grind
/-- the table of sums is the product -/
theorem hank_prod {ps ws : List Rat} (h : ws.length = ps.length) {n s many : Nat} (hs : s ≤ 1) (hm : 2 * n + s ≤ many + 1) : mulT (mulT (turn n (pows ps n)) (diag (ledR ps ws s)) ps.length) (pows ps n) n = hank (powR ps ws many) n s := by
  rw [first_prod h hs]
  unfold mulT hank
  rw [turn_pows, List.map_map]
  refine List.map_congr_left fun i hi => ?_
  rw [Function.comp, List.map_map]
  refine List.map_congr_left fun j hj => ?_
  have hi := List.mem_range.mp hi
  have hj := List.mem_range.mp hj
  show dot _ (ps.map fun p => p ^ j) = (powR ps ws many).getD (i + j + s) 0
  rw [dot_S (by simp), List.length_map, List.length_range]
  unfold powR
  rw [getD_mr _ (show i + j + s < many by omega), sum_heres h]
  refine S_congr fun k hk => ?_
  rw [getD_mr _ hk, getD_mp hk, pow_add', pow_add']; grind
/-- points by a number -/
theorem pow_far {ps ws : List Rat} (h : ws.length = ps.length) (y : Rat) {k many : Nat} (hk : k < many) : (powR (ps.map fun p => y * p) ws many).getD k 0 = y ^ k * (powR ps ws many).getD k 0 := by
  unfold powR
  rw [getD_mr _ hk, getD_mr _ hk, sum_heres (by rw [List.length_map]; exact h), sum_heres h, List.length_map, ← S_mul]
  refine S_congr fun j hj => ?_
  rw [getD_mp hj, mul_pow']; grind
/-- points in two parts -/
theorem pow_cut {ps ws : List Rat} (h : ws.length = ps.length) {c many : Nat} (hc : c ≤ ps.length) : List.zipWith (· + ·) (powR (ps.take c) (ws.take c) many) (powR (ps.drop c) (ws.drop c) many) = powR ps ws many := by
  unfold powR
  rw [List.zipWith_map, List.zipWith_self]
  refine List.map_congr_left fun k _ => ?_
  rw [sum_heres (by simp [h]), sum_heres (by simp [h]), sum_heres h, List.length_take, List.length_drop, Nat.min_eq_left hc]
  have e : ps.length = c + (ps.length - c) := by omega
  conv => rhs; rw [e]
  rw [S_split]
  congr 1
  · refine S_congr fun j hj => ?_
    simp [List.getD_eq_getElem?_getD, List.getElem?_take, hj]
  · refine S_congr fun j hj => ?_
    simp [List.getD_eq_getElem?_getD, List.getElem?_drop]
theorem pow_bd {x : Rat} {b : Nat} (h : Bd b x) : ∀ k, Bd (1 + b * k) (x ^ k)
  | 0 => by rw [Rat.pow_zero]; exact Bd.one.mono (by omega)
  | k + 1 => by rw [Rat.pow_succ]; exact ((pow_bd h k).mul h).mono (by rw [Nat.mul_add]; omega)
/-! ### the table of powers -/
section
variable {st : Store}
def pw (x : Rat) (c : Nat) : List D := (List.range c).map fun k => rt (x ^ k)
theorem pw_succ (x : Rat) (c : Nat) : pw x (c + 1) = pw x c ++ [rt (x ^ c)] := by
  unfold pw; rw [List.range_succ, List.map_append]; rfl
theorem pw_len (x : Rat) (c : Nat) : (pw x c).length = c := by simp [pw]
theorem ix_last {x : Rat} {c : Nat} : ixM (.lst (pw x (c + 1))) (.int (-1)) st = .ok (.val (rt (x ^ c))) st := by
  have e : atI (pw x (c + 1)) (-1) = some (rt (x ^ c)) := by
    have e1 : ixN (c + 1) (-1) = some c := by
      unfold ixN
      rw [if_neg (by decide), if_pos (by omega)]
      congr 1
      omega
    unfold atI
    rw [pw_len, e1]
    show (pw x (c + 1))[c]? = _
    unfold pw
    rw [List.getElem?_map, List.getElem?_range (by omega)]
    rfl
  show atD _ _ st = _
  unfold atD
  rw [e]
  rfl
def pt0 : SS := sSet 2 (callE 3 f_row_from (aC (vr 0) (aC (kk (.int 1)) (aC (kk (.int 6)) (aN)))))
def pt1 : SS := sExp (callE 4 f_need_between (aC (kk (.str ("many" : Str))) (aC (vr 1) (aC (kk (.int 1)) (aC (kk (.int 6)) (aN))))))
def pt2 : SS := sSet 3 (lstE (aN))
def pt3 : SS := sFrz [2] (sFor (itS (vr 2)) (.nm 4) (sSeq (sSet 5 (lstE (aC (kk (.tup [.int (1), .int (1)])) (aN)))) (sSeq (whM (tstE (op2 ltM (asD (op1 lenM (vq 5))) (vq 1))) (sApp 5 (asD (callE 2 f_scaled (aC (asD (op2 ixM (vq 5) (asD (op1 negM (kk (.int 1)))))) (aC (vr 4) (aN)))))) 1000) (sApp 3 (asD (op1 tupleM (vq 5)))))))
def pt4 : SS := sRet (op1 tupleM (vq 3))
def ptB : SS := sSeq (sSet 5 (lstE (aC (kk (.tup [.int (1), .int (1)])) (aN)))) (sSeq (whM (tstE (op2 ltM (asD (op1 lenM (vq 5))) (vq 1))) (sApp 5 (asD (callE 2 f_scaled (aC (asD (op2 ixM (vq 5) (asD (op1 negM (kk (.int 1)))))) (aC (vr 4) (aN)))))) 1000) (sApp 3 (asD (op1 tupleM (vq 5)))))
def ptb0 : SS := sSet 5 (lstE (aC (kk (.tup [.int (1), .int (1)])) (aN)))
def ptb1 : SS := whM (tstE (op2 ltM (asD (op1 lenM (vq 5))) (vq 1))) (sApp 5 (asD (callE 2 f_scaled (aC (asD (op2 ixM (vq 5) (asD (op1 negM (kk (.int 1)))))) (aC (vr 4) (aN)))))) 1000
def ptb2 : SS := sApp 3 (asD (op1 tupleM (vq 5)))
theorem ptB_eq : ptB = sSeq ptb0 (sSeq ptb1 ptb2) := rfl
def ptT : Ev → M Bool := tstE (op2 ltM (asD (op1 lenM (vq 5))) (vq 1))
def ptW : SS := sApp 5 (asD (callE 2 f_scaled (aC (asD (op2 ixM (vq 5) (asD (op1 negM (kk (.int 1)))))) (aC (vr 4) (aN)))))
theorem ptb1_eq : ptb1 = whM ptT ptW 1000 := rfl
theorem power_table_eq : S_power_table = sSeq pt0 (sSeq pt1 (sSeq pt2 (sSeq pt3 pt4))) := rfl
theorem pt_while {a0 a2 a3 : Slot} {x : Rat} {b n : Nat} (hb : Bd b x) (hb4 : b ≤ 400) (hn : n ≤ 12) : ∀ (f c : Nat), c + 1 ≤ n → n - (c + 1) < f → whM ptT ptW f [a0, .val (.int (n : Int)), a2, a3, .val (rt x), .own (pw x (c + 1))] st = .nx [a0, .val (.int (n : Int)), a2, a3, .val (rt x), .own (pw x n)] st
  | 0, c, h1, h2 => by omega
  | f + 1, c, h1, h2 => by
    have ln : lenM (.lst (pw x (c + 1))) st = .ok (.val (.int ((c + 1 : Nat) : Int))) st := by rw [len_l, pw_len]
    have et : ptT [a0, .val (.int (n : Int)), a2, a3, .val (rt x), .own (pw x (c + 1))] st = .ok (decide (((c + 1 : Nat) : Int) < (n : Int))) st := by
      unfold ptT
      simp -implicitDefEqProofs only [ev_tstE, ev_op2, ev_op1, ev_asD, ev_vq, List.getElem?_cons_zero, List.getElem?_cons_succ, bind_ok, ln, RV.d_val, lt_ii, bl_ok]
    rw [whM, et, onR_ok]
    by_cases e : c + 1 = n
    · have : decide (((c + 1 : Nat) : Int) < (n : Int)) = false := decide_eq_false (by omega)
      rw [this, e]
      rfl
    · have hd : decide (((c + 1 : Nat) : Int) < (n : Int)) = true := decide_eq_true (by omega)
      have hbc : b * c ≤ 400 * 12 := Nat.mul_le_mul hb4 (by omega)
      have sc : f_scaled [rt (x ^ c), rt x] st = .ok (.val (rt (x ^ c * x))) st := scaled_rt (pow_bd hb c) hb (by omega)
      have hv : (asD (callE 2 f_scaled (aC (asD (op2 ixM (vq 5) (asD (op1 negM (kk (.int 1)))))) (aC (vr 4) (aN))))) [a0, .val (.int (n : Int)), a2, a3, .val (rt x), .own (pw x (c + 1))] st = .ok (rt (x ^ (c + 1))) st := by
        simp -implicitDefEqProofs only [ev_asD, ev_callE, ev_aC, ev_op2, ev_op1, ev_vq, ev_vr, ev_kk, ev_aN, List.getElem?_cons_zero, List.getElem?_cons_succ, bind_ok, neg_i, RV.d_val, ix_last, List.length_cons, List.length_nil, Nat.zero_add, Nat.reduceAdd, if_true, sc, Rat.pow_succ]
      have ew : ptW [a0, .val (.int (n : Int)), a2, a3, .val (rt x), .own (pw x (c + 1))] st = .nx [a0, .val (.int (n : Int)), a2, a3, .val (rt x), .own (pw x (c + 2))] st := by
        have := app_ok (ρ := [a0, .val (.int (n : Int)), a2, a3, .val (rt x), .own (pw x (c + 1))]) (i := 5) (ds := pw x (c + 1)) rfl hv (by rw [pw_len]; omega)
        unfold ptW
        rw [this, pw_succ x (c + 1)]
        rfl
      rw [hd, if_pos rfl, ew]
      exact pt_while hb hb4 hn f (c + 1) (by omega) (by omega)
theorem pt_body {a0 a2 : Slot} {os : List D} {x : Rat} {b n : Nat} {s5 : Slot} (hb : Bd b x) (hb4 : b ≤ 400) (h1 : 1 ≤ n) (hn : n ≤ 12) (ho : os.length < 1000) : ptB [a0, .val (.int (n : Int)), a2, .own os, .val (rt x), s5] st = .nx [a0, .val (.int (n : Int)), a2, .own (os ++ [row ((List.range n).map fun k => x ^ k)]), .val (rt x), .own (pw x n)] st := by
  have w0 : ptb0 [a0, .val (.int (n : Int)), a2, .own os, .val (rt x), s5] st = .nx [a0, .val (.int (n : Int)), a2, .own os, .val (rt x), .own (pw x 1)] st := by
    have e : pw x 1 = [.tup [.int 1, .int 1]] := by
      show [rt (x ^ 0)] = _
      rw [Rat.pow_zero]
      rfl
    rw [e]
    rfl
  have w1 := pt_while (st := st) (a0 := a0) (a2 := a2) (a3 := .own os) hb hb4 hn 1000 0 (by omega) (by omega)
  have hv : (asD (op1 tupleM (vq 5))) [a0, .val (.int (n : Int)), a2, .own os, .val (rt x), .own (pw x n)] st = .ok (row ((List.range n).map fun k => x ^ k)) st := by
    have e : row ((List.range n).map fun k => x ^ k) = .tup (pw x n) := by unfold row pw; rw [List.map_map]; rfl
    simp -implicitDefEqProofs only [ev_asD, ev_op1, ev_vq, List.getElem?_cons_zero, List.getElem?_cons_succ, bind_ok, tuple_l st (show (pw x n).length ≤ 16777216 by rw [pw_len]; omega), RV.d_val, e]
  have w2 : ptb2 [a0, .val (.int (n : Int)), a2, .own os, .val (rt x), .own (pw x n)] st = .nx [a0, .val (.int (n : Int)), a2, .own (os ++ [row ((List.range n).map fun k => x ^ k)]), .val (rt x), .own (pw x n)] st := by
    have := app_ok (ρ := [a0, .val (.int (n : Int)), a2, .own os, .val (rt x), .own (pw x n)]) (i := 3) (ds := os) rfl hv (by omega)
    unfold ptb2
    rw [this]
    rfl
  rw [ptB_eq, ev_sSeq, w0, seq_nx, ev_sSeq, ptb1_eq, w1, seq_nx, w2]
theorem pt_loop {a0 a2 : Slot} {b n : Nat} (hb4 : b ≤ 400) (h1 : 1 ≤ n) (hn : n ≤ 12) : ∀ (xs : List Rat) (os : List D) (s4 s5 : Slot), (∀ x ∈ xs, Bd b x) → os.length + xs.length ≤ 100 → ∃ t4 t5, Dn.forM (.nm 4) ptB (xs.map rt) [a0, .val (.int (n : Int)), a2, .own os, s4, s5] st = .nx [a0, .val (.int (n : Int)), a2, .own (os ++ (pows xs n).map row), t4, t5] st
  | [], os, s4, s5, _, _ => ⟨s4, s5, by simp [pows]; rfl⟩
  | x :: xs, os, s4, s5, hx, ho => by
    simp only [List.length_cons] at ho
    have e1 := pt_body (st := st) (a0 := a0) (a2 := a2) (os := os) (s5 := s5) (hx x (by simp)) hb4 h1 hn (by omega)
    obtain ⟨t4, t5, e2⟩ := pt_loop (a0 := a0) (a2 := a2) hb4 h1 hn xs (os ++ [row ((List.range n).map fun k => x ^ k)]) (.val (rt x)) (.own (pw x n)) (fun y hy => hx y (by simp [hy])) (by simp; omega)
    refine ⟨t4, t5, ?_⟩
    rw [List.map_cons, Dn.forM]
    have ep : (Tg.nm 4).put (rt x) [a0, .val (.int (n : Int)), a2, .own os, s4, s5] = some [a0, .val (.int (n : Int)), a2, .own os, .val (rt x), s5] := rfl
    simp only [ep, e1, e2]
    simp [pows]
theorem power_table_rt {xs : List Rat} {d : D} {b n : Nat} (g : Gv xs d) (hx : ∀ x ∈ xs, Bd b x) (hb4 : b ≤ 400) (l1 : 1 ≤ xs.length) (l6 : xs.length ≤ 6) (h1 : 1 ≤ n) (hn : n ≤ 6) : f_power_table [d, .int (n : Int)] st = .ok (.val (rows (pows xs n))) st := by
  have r1 : f_row_from [d, .int 1, .int 6] st = .ok (.val (row xs)) st := row_from_rt g hx (show b ≤ 8900 by omega) (lo := 1) (hi := 6) l1 l6 (by omega)
  have nd : f_need_between [.str ("many" : Str), .int (n : Int), .int 1, .int 6] st = .ok (.val .non) st := need_ok _ (by omega) (by omega)
  have hs : startE [("points" : Str), ("many" : Str), ("made" : Str), ("out" : Str), ("point" : Str), ("row" : Str)] [d, .int (n : Int)] = [.val d, .val (.int (n : Int)), .un, .un, .un, .un] := rfl
  have w0 : pt0 [.val d, .val (.int (n : Int)), .un, .un, .un, .un] st = .nx [.val d, .val (.int (n : Int)), .val (row xs), .un, .un, .un] st := by
    unfold pt0
    simp -implicitDefEqProofs only [ev_sSet, ev_callE, ev_aC, ev_vr, ev_kk, ev_aN, List.getElem?_cons_zero, List.getElem?_cons_succ, bind_ok, List.length_cons, List.length_nil, Nat.zero_add, Nat.reduceAdd, if_true, r1, onR_ok, slot_val, List.set_cons_succ, List.set_cons_zero]
    rw [if_pos (by decide)]
  have w1 : pt1 [.val d, .val (.int (n : Int)), .val (row xs), .un, .un, .un] st = .nx [.val d, .val (.int (n : Int)), .val (row xs), .un, .un, .un] st := by
    unfold pt1
    simp -implicitDefEqProofs only [ev_sExp, ev_callE, ev_aC, ev_vr, ev_kk, ev_aN, List.getElem?_cons_zero, List.getElem?_cons_succ, bind_ok, List.length_cons, List.length_nil, Nat.zero_add, Nat.reduceAdd, if_true, nd, onR_ok]
  have w2 : pt2 [.val d, .val (.int (n : Int)), .val (row xs), .un, .un, .un] st = .nx [.val d, .val (.int (n : Int)), .val (row xs), .own [], .un, .un] st := rfl
  obtain ⟨t4, t5, e⟩ := pt_loop (st := st) (a0 := .val d) (a2 := .val (row xs)) hb4 h1 (show n ≤ 12 by omega) xs [] .un .un hx (by simp; omega)
  have w3 : pt3 [.val d, .val (.int (n : Int)), .val (row xs), .own [], .un, .un] st = .nx [.val d, .val (.int (n : Int)), .val (row xs), .own ((pows xs n).map row), t4, t5] st := by
    have fz : frzL [2] [.val d, .val (.int (n : Int)), .val (row xs), .own [], .un, .un] = [.val d, .val (.int (n : Int)), .val (row xs), .own [], .un, .un] := rfl
    have hq : (itS (vr 2)) [.val d, .val (.int (n : Int)), .val (row xs), .own [], .un, .un] st = .ok (xs.map rt) st := rfl
    show (sFor (itS (vr 2)) (.nm 4) ptB) (frzL [2] [.val d, .val (.int (n : Int)), .val (row xs), .own [], .un, .un]) st = _
    rw [fz, ev_sFor, hq, onR_ok, e, List.nil_append]
  have w4 : pt4 [.val d, .val (.int (n : Int)), .val (row xs), .own ((pows xs n).map row), t4, t5] st = .ret (.val (rows (pows xs n))) st := by
    unfold pt4
    simp -implicitDefEqProofs only [ev_sRet, ev_op1, ev_vq, List.getElem?_cons_zero, List.getElem?_cons_succ, bind_ok, tup_rows (st := st) (show (pows xs n).length ≤ 1000 by unfold pows; rw [List.length_map]; omega), onR_ok]
  unfold f_power_table
  rw [ev_runF, hs, power_table_eq, ev_sSeq, w0, seq_nx, ev_sSeq, w1, seq_nx, ev_sSeq, w2, seq_nx, ev_sSeq, w3, seq_nx, w4, out_ret]
end
end K78

set_option Elab.async false
set_option linter.all false
set_option maxRecDepth 100000
set_option maxHeartbeats 4000000
set_option exponentiation.threshold 20000
namespace K78
open PySem PySem.Spec PyProof.Rows L2 Dn Dn.Pa Dn.Rt
open Dn.Pen (penC PenI PenI.mono ev_compE lcM_nil lcM_cons lcM_all lcB_val all_true own_ok)
def c0 : SS := sSet 1 (op2 addA (kk (.int 1)) (asD (callE 2 f__law_draw (aC (vr 0) (aC (kk (.int 5)) (aN))))))
def c1 : SS := sPar 2 3 (asD (op1 tupleM (asD (compE (itR1 (vq 1)) (.nm 15) (fun _ => pure true) (asD (callE 2 f__law_ratio (aC (vr 0) (aC (kk (.int 4)) (aN))))) [15])))) (asD (op1 tupleM (asD (compE (itR1 (vq 1)) (.nm 15) (fun _ => pure true) (asD (callE 2 f__law_ratio (aC (vr 0) (aC (kk (.int 4)) (aN))))) [15]))))
def c2 : SS := sSet 4 (op2 addA (kk (.int 1)) (asD (callE 2 f__law_draw (aC (vr 0) (aC (kk (.int 12)) (aN))))))
def c3 : SS := sSet 5 (callE 3 f_power_sums (aC (asD (callE 2 f__law_given_row (aC (vr 0) (aC (vr 2) (aN))))) (aC (asD (callE 2 f__law_given_row (aC (vr 0) (aC (vr 3) (aN))))) (aC (vr 4) (aN)))))
def c4 : SS := sIf (tstE (op2 neM (asD (op1 reprM (vq 5))) (asD (op1 reprM (asD (callE 3 f__law_power_row (aC (vr 2) (aC (vr 3) (aC (vr 4) (aN)))))))))) (sRet (asR (kk (.bl false)))) (sNil)
def c5 : SS := sSet 6 (callE 2 f__law_draw (aC (vr 0) (aC (kk (.int 2)) (aN))))
def c6 : SS := sFrz [8] (sSet 7 (compE (itR2 (kk (.int 1)) (kk (.int 7))) (.nm 8) (tstE (op2 leM (asD (op2 addA (asD (op2 subM (asD (op2 mulM (kk (.int 2)) (vq 8))) (kk (.int 1)))) (vq 6))) (vq 4))) (vr 8) [8]))
def c7 : SS := sIf (tstE (op2 neM (vq 7) (asD (lstE (aN))))) (sSeq (sFrz [7] (sSet 8 (callE 2 f__law_pick (aC (vr 0) (aC (vr 7) (aN)))))) (sSeq (sFrz [5, 6, 8] (sSet 9 (callE 3 f_hankel (aC (asD (callE 2 f__law_given_row (aC (vr 0) (aC (vr 5) (aN))))) (aC (vr 8) (aC (vr 6) (aN))))))) (sSeq (sFrz [5, 6, 8] (sIf (tstE (op2 neM (asD (op1 reprM (vq 9))) (asD (op1 reprM (asD (callE 3 f__law_square_of (aC (vr 5) (aC (vr 8) (aC (vr 6) (aN)))))))))) (sRet (asR (kk (.bl false)))) (sNil))) (sSeq (sSet 10 (ifR (tstE (op2 eqM (vq 6) (kk (.int 1)))) (op1 tupleM (asD (compE (itZA (vq 3) (vq 2)) (.tp [19, 20]) (fun _ => pure true) (asD (callE 2 f__law_times (aC (vr 19) (aC (vr 20) (aN))))) [19, 20]))) (asR (vr 3)))) (sSeq (sFrz [8] (sSet 11 (callE 2 f_power_table (aC (vr 2) (aC (vr 8) (aN)))))) (sFrz [11] (sIf (tstE (op2 neM (asD (callE 2 f_product (aC (asD (callE 2 f_product (aC (asD (callE 1 f_turned (aC (vr 11) (aN)))) (aC (asD (callE 1 f_diagonal_table (aC (vr 10) (aN)))) (aN))))) (aC (vr 11) (aN))))) (vq 9))) (sRet (asR (kk (.bl false)))) (sNil)))))))) (sNil)
def c8 : SS := sSet 12 (callE 2 f__law_pick (aC (vr 0) (aC (asD (lstE (aC (tupE (aC (kk (.int 2)) (aC (kk (.int 1)) (aN)))) (aC (tupE (aC (asD (op1 negM (kk (.int 1)))) (aC (kk (.int 1)) (aN)))) (aC (tupE (aC (kk (.int 1)) (aC (kk (.int 2)) (aN)))) (aN)))))) (aN))))
def c9 : SS := sFrz [12] (sSet 13 (callE 3 f_power_sums (aC (asD (op1 tupleM (asD (compE (itS (vq 2)) (.nm 21) (fun _ => pure true) (asD (callE 2 f__law_times (aC (vr 12) (aC (vr 21) (aN))))) [21])))) (aC (vr 3) (aC (vr 4) (aN))))))
def c10 : SS := sSet 14 (asR (tupE (aC (kk (.int 1)) (aC (kk (.int 1)) (aN)))))
def c11 : SS := sFor (itR1 (vq 4)) (.nm 15) (sSeq (sFrz [14] (sIf (tstE (op2 neM (asD (op2 ixM (vq 13) (vq 15))) (asD (callE 2 f__law_times (aC (vr 14) (aC (asD (op2 ixM (vq 5) (vq 15))) (aN))))))) (sRet (asR (kk (.bl false)))) (sNil))) (sFrz [12, 14] (sSet 14 (callE 2 f__law_times (aC (vr 14) (aC (vr 12) (aN)))))))
def c12 : SS := sSet 16 (op2 addA (kk (.int 1)) (asD (callE 2 f__law_draw (aC (vr 0) (aC (vr 1) (aN))))))
def c13 : SS := sIf (tstE (op2 ltM (vq 16) (vq 1))) (sSeq (sPar 17 18 (asD (callE 3 f_power_sums (aC (asD (slE (vq 2) (pN) (pS (vq 16)))) (aC (asD (slE (vq 3) (pN) (pS (vq 16)))) (aC (vr 4) (aN)))))) (asD (callE 3 f_power_sums (aC (asD (slE (vq 2) (pS (vq 16)) (pN))) (aC (asD (slE (vq 3) (pS (vq 16)) (pN))) (aC (vr 4) (aN))))))) (sRet (op2 eqM (asD (op1 tupleM (asD (compE (itZA (vq 17) (vq 18)) (.tp [19, 20]) (fun _ => pure true) (asD (callE 2 f__law_plus (aC (vr 19) (aC (vr 20) (aN))))) [19, 20])))) (vq 5)))) (sNil)
def c14 : SS := sRet (asR (kk (.bl true)))
theorem case_eq : S__law_case = sSeq c0 (sSeq c1 (sSeq c2 (sSeq c3 (sSeq c4 (sSeq c5 (sSeq c6 (sSeq c7 (sSeq c8 (sSeq c9 (sSeq c10 (sSeq c11 (sSeq c12 (sSeq c13 c14))))))))))))) := rfl
def z0 : SS := sFrz [7] (sSet 8 (callE 2 f__law_pick (aC (vr 0) (aC (vr 7) (aN)))))
def z1 : SS := sFrz [5, 6, 8] (sSet 9 (callE 3 f_hankel (aC (asD (callE 2 f__law_given_row (aC (vr 0) (aC (vr 5) (aN))))) (aC (vr 8) (aC (vr 6) (aN))))))
def z2 : SS := sFrz [5, 6, 8] (sIf (tstE (op2 neM (asD (op1 reprM (vq 9))) (asD (op1 reprM (asD (callE 3 f__law_square_of (aC (vr 5) (aC (vr 8) (aC (vr 6) (aN)))))))))) (sRet (asR (kk (.bl false)))) (sNil))
def z3 : SS := sSet 10 (ifR (tstE (op2 eqM (vq 6) (kk (.int 1)))) (op1 tupleM (asD (compE (itZA (vq 3) (vq 2)) (.tp [19, 20]) (fun _ => pure true) (asD (callE 2 f__law_times (aC (vr 19) (aC (vr 20) (aN))))) [19, 20]))) (asR (vr 3)))
def z4 : SS := sFrz [8] (sSet 11 (callE 2 f_power_table (aC (vr 2) (aC (vr 8) (aN)))))
def z5 : SS := sFrz [11] (sIf (tstE (op2 neM (asD (callE 2 f_product (aC (asD (callE 2 f_product (aC (asD (callE 1 f_turned (aC (vr 11) (aN)))) (aC (asD (callE 1 f_diagonal_table (aC (vr 10) (aN)))) (aN))))) (aC (vr 11) (aN))))) (vq 9))) (sRet (asR (kk (.bl false)))) (sNil))
theorem c7_eq : c7 = sIf (tstE (op2 neM (vq 7) (asD (lstE (aN))))) (sSeq z0 (sSeq z1 (sSeq z2 (sSeq z3 (sSeq z4 z5))))) sNil := rfl
section
variable {r : Store} {st : Store} {n : Int} {s1 s2 s3 s4 s5 s6 s7 s8 s9 s10 s11 s12 s13 s14 s15 s16 s17 s18 s19 s20 s21 : Slot}
theorem c0_ok (h : PenI r n st) (hn : n ≤ 900000) : ∃ (few : Nat) (st' : Store), c0 [.val (.cel 0), s1, s2, s3, s4, s5, s6, s7, s8, s9, s10, s11, s12, s13, s14, s15, s16, s17, s18, s19, s20, s21] st = .nx [.val (.cel 0), .val (.int (few : Int)), s2, s3, s4, s5, s6, s7, s8, s9, s10, s11, s12, s13, s14, s15, s16, s17, s18, s19, s20, s21] st' ∧ 1 ≤ few ∧ few ≤ 5 ∧ PenI r (n + 1) st' := by
  obtain ⟨v, st1, e1, v0, v1, q1⟩ := draw (many := 5) h (by omega) (by decide) (by decide)
  rw [← draw_is] at e1
  refine ⟨(1 + v).toNat, st1, ?_, by omega, by omega, q1⟩
  rw [show (((1 + v).toNat : Nat) : Int) = 1 + v by omega]
  unfold c0
  simp -implicitDefEqProofs only [ev_sSeq, ev_sSet, ev_callE, ev_aC, ev_vr, ev_vq, ev_kk, ev_aN, ev_asD, ev_op1, ev_op2, List.getElem?_cons_zero, List.getElem?_cons_succ, bind_ok, List.length_cons, List.length_nil, Nat.zero_add, Nat.reduceAdd, if_true, onR_ok, slot_val, List.set_cons_succ, List.set_cons_zero, RV.d_val, RV.d_own, e1, addA_ii]
  rw [if_pos (by simp)]
theorem c2_ok (h : PenI r n st) (hn : n ≤ 900000) : ∃ (many : Nat) (st' : Store), c2 [.val (.cel 0), s1, s2, s3, s4, s5, s6, s7, s8, s9, s10, s11, s12, s13, s14, s15, s16, s17, s18, s19, s20, s21] st = .nx [.val (.cel 0), s1, s2, s3, .val (.int (many : Int)), s5, s6, s7, s8, s9, s10, s11, s12, s13, s14, s15, s16, s17, s18, s19, s20, s21] st' ∧ 1 ≤ many ∧ many ≤ 12 ∧ PenI r (n + 1) st' := by
  obtain ⟨v, st1, e1, v0, v1, q1⟩ := draw (many := 12) h (by omega) (by decide) (by decide)
  rw [← draw_is] at e1
  refine ⟨(1 + v).toNat, st1, ?_, by omega, by omega, q1⟩
  rw [show (((1 + v).toNat : Nat) : Int) = 1 + v by omega]
  unfold c2
  simp -implicitDefEqProofs only [ev_sSeq, ev_sSet, ev_callE, ev_aC, ev_vr, ev_vq, ev_kk, ev_aN, ev_asD, ev_op1, ev_op2, List.getElem?_cons_zero, List.getElem?_cons_succ, bind_ok, List.length_cons, List.length_nil, Nat.zero_add, Nat.reduceAdd, if_true, onR_ok, slot_val, List.set_cons_succ, List.set_cons_zero, RV.d_val, RV.d_own, e1, addA_ii]
  rw [if_pos (by simp)]
theorem c5_ok (h : PenI r n st) (hn : n ≤ 900000) : ∃ (s : Nat) (st' : Store), c5 [.val (.cel 0), s1, s2, s3, s4, s5, s6, s7, s8, s9, s10, s11, s12, s13, s14, s15, s16, s17, s18, s19, s20, s21] st = .nx [.val (.cel 0), s1, s2, s3, s4, s5, .val (.int (s : Int)), s7, s8, s9, s10, s11, s12, s13, s14, s15, s16, s17, s18, s19, s20, s21] st' ∧ s ≤ 1 ∧ PenI r (n + 1) st' := by
  obtain ⟨v, st1, e1, v0, v1, q1⟩ := draw (many := 2) h (by omega) (by decide) (by decide)
  rw [← draw_is] at e1
  refine ⟨v.toNat, st1, ?_, by omega, q1⟩
  rw [show ((v.toNat : Nat) : Int) = v by omega]
  unfold c5
  simp -implicitDefEqProofs only [ev_sSeq, ev_sSet, ev_callE, ev_aC, ev_vr, ev_vq, ev_kk, ev_aN, ev_asD, ev_op1, ev_op2, List.getElem?_cons_zero, List.getElem?_cons_succ, bind_ok, List.length_cons, List.length_nil, Nat.zero_add, Nat.reduceAdd, if_true, onR_ok, slot_val, List.set_cons_succ, List.set_cons_zero, RV.d_val, RV.d_own, e1]
  rw [if_pos (by simp)]
theorem rts_of {ds : List D} (h : ∀ d ∈ ds, ∃ x, d = rt x ∧ Bd 3 x) : ∃ xs : List Rat, ds = xs.map rt ∧ ∀ x ∈ xs, Bd 3 x := by
  induction ds with
  | nil => exact ⟨[], rfl, by simp⟩
  | cons d ds ih =>
    obtain ⟨x, rfl, hx⟩ := h d (by simp)
    obtain ⟨xs, e, hb⟩ := ih fun y hy => h y (by simp [hy])
    exact ⟨x :: xs, by simp [e], fun y hy => by
      rcases List.mem_cons.mp hy with rfl | hy
      · exact hx
      · exact hb y hy⟩
def ratC : Ev → M RV := compE (itR1 (vq 1)) (.nm 15) (fun _ => pure true) (asD (callE 2 f__law_ratio (aC (vr 0) (aC (kk (.int 4)) (aN))))) [15]
theorem ratC_ok {few : Nat} (h5 : few ≤ 5) (h : PenI r n st) (hn : n ≤ 900000) : ∃ (xs : List Rat) (st' : Store), ratC [.val (.cel 0), .val (.int (few : Int)), s2, s3, s4, s5, s6, s7, s8, s9, s10, s11, s12, s13, s14, s15, s16, s17, s18, s19, s20, s21] st = .ok (.own (xs.map rt)) st' ∧ xs.length = few ∧ (∀ x ∈ xs, Bd 3 x) ∧ PenI r (n + 10) st' := by
  have hq : (itR1 (vq 1)) [.val (.cel 0), .val (.int (few : Int)), s2, s3, s4, s5, s6, s7, s8, s9, s10, s11, s12, s13, s14, s15, s16, s17, s18, s19, s20, s21] st = .ok ((List.range few).map fun (i : Nat) => D.int (i : Int)) st := by
    simp -implicitDefEqProofs only [ev_itR1, ev_vq, List.getElem?_cons_succ, List.getElem?_cons_zero, bind_ok]
    exact rng_ok few st (by omega)
  obtain ⟨ps, st1, e1, m1, r1, q1⟩ := lcM_pen (bd := lcB (.nm 15) (fun _ => pure true) (asD (callE 2 f__law_ratio (aC (vr 0) (aC (kk (.int 4)) (aN))))) (wipeE [.val (.cel 0), .val (.int (few : Int)), s2, s3, s4, s5, s6, s7, s8, s9, s10, s11, s12, s13, s14, s15, s16, s17, s18, s19, s20, s21] [15])) (r := r) (c := 2) (fun (i : Nat) => D.int (i : Int)) (fun _ d => ∃ x, d = rt x ∧ Bd 3 x) (List.range few) (fun a ha n' st' p' hn' => by
    obtain ⟨x, st2, e, hx, p2⟩ := ratio_ok p' hn'
    refine ⟨rt x, st2, lcB_val (ρ' := [.val (.cel 0), .val (.int (few : Int)), s2, s3, s4, s5, s6, s7, s8, s9, s10, s11, s12, s13, s14, .val (.int (a : Int)), s16, s17, s18, s19, s20, s21]) rfl ?_, ⟨x, rfl, hx⟩, p2⟩
    simp -implicitDefEqProofs only [ev_sSeq, ev_sSet, ev_callE, ev_aC, ev_vr, ev_vq, ev_kk, ev_aN, ev_asD, ev_op1, ev_op2, List.getElem?_cons_zero, List.getElem?_cons_succ, bind_ok, List.length_cons, List.length_nil, Nat.zero_add, Nat.reduceAdd, if_true, onR_ok, slot_val, List.set_cons_succ, List.set_cons_zero, RV.d_val, RV.d_own, e]) n st h (by rw [List.length_range]; omega)
  have c := comp_ok (vs := [15]) hq (by rw [List.length_map, List.length_range]; omega) e1
  obtain ⟨xs, ex, hx⟩ := rts_of (ds := ps.map (·.2)) fun d hd => by
    obtain ⟨p, hp, rfl⟩ := List.mem_map.mp hd
    exact r1 p hp
  have hl : xs.length = few := by
    have a1 : (ps.map (·.2)).length = xs.length := by rw [ex, List.length_map]
    have a2 : (ps.map (·.1)).length = few := by rw [m1, List.length_range]
    rw [List.length_map] at a1 a2
    omega
  rw [ex] at c
  exact ⟨xs, st1, c, hl, hx, q1.mono (by rw [List.length_range]; omega)⟩
theorem c1_ok {few : Nat} (h5 : few ≤ 5) (h : PenI r n st) (hn : n ≤ 800000) : ∃ (ps ws : List Rat) (st' : Store), c1 [.val (.cel 0), .val (.int (few : Int)), s2, s3, s4, s5, s6, s7, s8, s9, s10, s11, s12, s13, s14, s15, s16, s17, s18, s19, s20, s21] st = .nx [.val (.cel 0), .val (.int (few : Int)), .val (row ps), .val (row ws), s4, s5, s6, s7, s8, s9, s10, s11, s12, s13, s14, s15, s16, s17, s18, s19, s20, s21] st' ∧ ps.length = few ∧ ws.length = few ∧ (∀ x ∈ ps, Bd 3 x) ∧ (∀ x ∈ ws, Bd 3 x) ∧ PenI r (n + 20) st' := by
  obtain ⟨ps, st1, e1, l1, b1, q1⟩ := ratC_ok (s2 := s2) (s3 := s3) (s4 := s4) (s5 := s5) (s6 := s6) (s7 := s7) (s8 := s8) (s9 := s9) (s10 := s10) (s11 := s11) (s12 := s12) (s13 := s13) (s14 := s14) (s15 := s15) (s16 := s16) (s17 := s17) (s18 := s18) (s19 := s19) (s20 := s20) (s21 := s21) h5 h (by omega)
  obtain ⟨ws, st2, e2, l2, b2, q2⟩ := ratC_ok (s2 := s2) (s3 := s3) (s4 := s4) (s5 := s5) (s6 := s6) (s7 := s7) (s8 := s8) (s9 := s9) (s10 := s10) (s11 := s11) (s12 := s12) (s13 := s13) (s14 := s14) (s15 := s15) (s16 := s16) (s17 := s17) (s18 := s18) (s19 := s19) (s20 := s20) (s21 := s21) h5 q1 (by omega)
  refine ⟨ps, ws, st2, ?_, l1, l2, b1, b2, q2.mono (by omega)⟩
  have ec : c1 = sPar 2 3 (asD (op1 tupleM (asD ratC))) (asD (op1 tupleM (asD ratC))) := rfl
  rw [ec]
  simp -implicitDefEqProofs only [ev_sPar, ev_asD, ev_op1, e1, e2, bind_ok, RV.d_own, RV.d_val, tup_row (show ps.length ≤ 1000 by omega), tup_row (show ws.length ≤ 1000 by omega), onR_ok, List.set_cons_succ, List.set_cons_zero]
  rw [if_pos (by simp)]
section
variable {ps ws : List Rat} {many : Nat} (hp : ∀ x ∈ ps, Bd 3 x) (hw : ∀ x ∈ ws, Bd 3 x) (hl : ws.length = ps.length) (l1 : 1 ≤ ps.length) (l5 : ps.length ≤ 5) (m1 : 1 ≤ many) (m12 : many ≤ 12)
include hp hw hl l1 l5 m1 m12
theorem powR_bd : ∀ x ∈ powR ps ws many, Bd 306 x := fun x hx => by
  unfold powR at hx
  obtain ⟨k, hk, rfl⟩ := List.mem_map.mp hx
  have hk := List.mem_range.mp hk
  refine (sum_bd (heres_bd hp hw k)).mono ?_
  rw [heres_len hl]
  have : (3 + 3 * k + 1) * ps.length ≤ (3 + 3 * 11 + 1) * 5 := Nat.mul_le_mul (by omega) l5
  omega
theorem powR_len : (powR ps ws many).length = many := by simp [powR]
theorem c3_ok (h : PenI r n st) (hn : n ≤ 800000) : ∃ (st' : Store), c3 [.val (.cel 0), s1, .val (row ps), .val (row ws), .val (.int (many : Int)), s5, s6, s7, s8, s9, s10, s11, s12, s13, s14, s15, s16, s17, s18, s19, s20, s21] st = .nx [.val (.cel 0), s1, .val (row ps), .val (row ws), .val (.int (many : Int)), .val (row (powR ps ws many)), s6, s7, s8, s9, s10, s11, s12, s13, s14, s15, s16, s17, s18, s19, s20, s21] st' ∧ PenI r (n + 32) st' := by
  obtain ⟨d, st1, e1, g1, q1⟩ := given_ok hp (by decide) (by omega) h (by omega)
  obtain ⟨e, st2, e2, g2, q2⟩ := given_ok hw (by decide) (by omega) q1 (by omega)
  have p := power_sums_rt (st := st2) g1 g2 hp hw (by decide) (by decide) hl l1 (by omega) m1 m12
  refine ⟨st2, ?_, q2.mono (by omega)⟩
  unfold c3
  simp -implicitDefEqProofs only [ev_sSeq, ev_sSet, ev_callE, ev_aC, ev_vr, ev_vq, ev_kk, ev_aN, ev_asD, ev_op1, ev_op2, List.getElem?_cons_zero, List.getElem?_cons_succ, bind_ok, List.length_cons, List.length_nil, Nat.zero_add, Nat.reduceAdd, if_true, onR_ok, slot_val, List.set_cons_succ, List.set_cons_zero, RV.d_val, RV.d_own, e1, e2, p]
  rw [if_pos (by simp)]
theorem c4_ok : c4 [.val (.cel 0), s1, .val (row ps), .val (row ws), .val (.int (many : Int)), .val (row (powR ps ws many)), s6, s7, s8, s9, s10, s11, s12, s13, s14, s15, s16, s17, s18, s19, s20, s21] st = .nx [.val (.cel 0), s1, .val (row ps), .val (row ws), .val (.int (many : Int)), .val (row (powR ps ws many)), s6, s7, s8, s9, s10, s11, s12, s13, s14, s15, s16, s17, s18, s19, s20, s21] st := by
  have lp := law_power_row_rt (st := st) hp hw (by decide) (by decide) hl (by omega) m12
  have rp := repr_row (st := st) (fun x hx => (powR_bd hp hw hl l1 l5 m1 m12 x hx).mono (by decide)) (by rw [powR_len hp hw hl l1 l5 m1 m12]; omega)
  unfold c4
  simp -implicitDefEqProofs only [ev_sIf, ev_tstE, ev_sSeq, ev_sSet, ev_callE, ev_aC, ev_vr, ev_vq, ev_kk, ev_aN, ev_asD, ev_op1, ev_op2, List.getElem?_cons_zero, List.getElem?_cons_succ, bind_ok, List.length_cons, List.length_nil, Nat.zero_add, Nat.reduceAdd, if_true, onR_ok, slot_val, List.set_cons_succ, List.set_cons_zero, RV.d_val, RV.d_own, lp, rp, ne_ss, beq_self_eq_true, Bool.not_true, bl_ok, Bool.false_eq_true, if_false, ev_sNil]
end
def szs (many s : Nat) : List Nat := (List.range' 1 6).filter fun n => decide (2 * n + s ≤ many + 1)
theorem mem_szs {many s n : Nat} (h : n ∈ szs many s) : 1 ≤ n ∧ n ≤ 6 ∧ 2 * n + s ≤ many + 1 := by
  unfold szs at h
  obtain ⟨h1, h2⟩ := List.mem_filter.mp h
  obtain ⟨i, hi, e⟩ := List.mem_range'.mp h1
  exact ⟨by omega, by omega, of_decide_eq_true h2⟩
theorem szs_len (many s : Nat) : (szs many s).length ≤ 6 := by
  unfold szs
  refine Nat.le_trans (List.length_filter_le _ _) (by rw [List.length_range']; decide)
theorem lcM_if {α : Type} {bd : D → M (Option D)} {st : Store} (g : α → D) (p : α → Bool) (F : α → D) : ∀ {l : List α}, (∀ a ∈ l, bd (g a) st = .ok (if p a then some (F a) else none) st) → lcM bd (l.map g) st = .ok ((l.filter p).map F) st
  | [], _ => rfl
  | a :: l, h => by
    rw [List.map_cons, lcM_cons, h a (by simp), bind_ok, lcM_if g p F fun x hx => h x (by simp [hx]), bind_ok, List.filter_cons]
    cases p a <;> rfl
theorem lcB_if {T : Tg} {t : Ev → M Bool} {f : Ev → M D} {ρ ρ' : Ev} {d v : D} {b : Bool} {st : Store} (h : T.put d ρ = some ρ') (ht : t ρ' st = .ok b st) (hf : f ρ' st = .ok v st) : lcB T t f ρ d st = .ok (if b then some v else none) st := by
  unfold lcB
  rw [h]
  have e : (do let b ← t ρ'; if b then (do let y ← f ρ'; pure (some y)) else pure none : M (Option D)) st = .ok (if b then some v else none) st := by
    rw [m_bind, ht, bind_ok]
    cases b with
    | true =>
      show (do let y ← f ρ'; pure (some y) : M (Option D)) st = _
      rw [m_bind, hf]
      rfl
    | false => rfl
  show noRz _ st = _
  unfold noRz
  rw [e]
def szT : Ev → M Bool := tstE (op2 leM (asD (op2 addA (asD (op2 subM (asD (op2 mulM (kk (.int 2)) (vq 8))) (kk (.int 1)))) (vq 6))) (vq 4))
theorem c6_ok {many s : Nat} (m12 : many ≤ 12) (hs1 : s ≤ 1) (h8 : ∀ l, s8 ≠ .own l) : c6 [.val (.cel 0), s1, s2, s3, .val (.int (many : Int)), s5, .val (.int (s : Int)), s7, s8, s9, s10, s11, s12, s13, s14, s15, s16, s17, s18, s19, s20, s21] st = .nx [.val (.cel 0), s1, s2, s3, .val (.int (many : Int)), s5, .val (.int (s : Int)), .own ((szs many s).map fun (i : Nat) => D.int (i : Int)), s8, s9, s10, s11, s12, s13, s14, s15, s16, s17, s18, s19, s20, s21] st := by
  have ec : c6 = sFrz [8] (sSet 7 (compE (itR2 (kk (.int 1)) (kk (.int 7))) (.nm 8) szT (vr 8) [8])) := rfl
  have fz : frzL [8] [.val (.cel 0), s1, s2, s3, .val (.int (many : Int)), s5, .val (.int (s : Int)), s7, s8, s9, s10, s11, s12, s13, s14, s15, s16, s17, s18, s19, s20, s21] = [.val (.cel 0), s1, s2, s3, .val (.int (many : Int)), s5, .val (.int (s : Int)), s7, s8, s9, s10, s11, s12, s13, s14, s15, s16, s17, s18, s19, s20, s21] := by
    cases s8 with
    | own l => exact (h8 l rfl).elim
    | _ => rfl
  have hq : (itR2 (kk (.int 1)) (kk (.int 7))) [.val (.cel 0), s1, s2, s3, .val (.int (many : Int)), s5, .val (.int (s : Int)), s7, s8, s9, s10, s11, s12, s13, s14, s15, s16, s17, s18, s19, s20, s21] st = .ok ((List.range' 1 6).map fun (i : Nat) => D.int (i : Int)) st := rfl
  have c := comp_ok (T := .nm 8) (t := szT) (f := vr 8) (vs := [8]) (st2 := st) (ys := (szs many s).map fun (i : Nat) => D.int (i : Int)) hq (by simp) (by
    unfold szs
    refine lcM_if (fun (i : Nat) => D.int (i : Int)) (fun n => decide (2 * n + s ≤ many + 1)) (fun (i : Nat) => D.int (i : Int)) fun k hk => ?_
    obtain ⟨i, hi, e⟩ := List.mem_range'.mp hk
    have m2 : mulM (.int 2) (.int (k : Int)) st = .ok (.val (.int (2 * (k : Int)))) st := mul_b (i := 2) (j := 4) (by decide) (by rw [Int.natAbs_natCast]; omega) (by decide) (by decide) (by decide)
    have et : szT [.val (.cel 0), s1, s2, s3, .val (.int (many : Int)), s5, .val (.int (s : Int)), s7, .val (.int (k : Int)), s9, s10, s11, s12, s13, s14, s15, s16, s17, s18, s19, s20, s21] st = .ok (decide (2 * k + s ≤ many + 1)) st := by
      unfold szT
      simp -implicitDefEqProofs only [ev_tstE, ev_sSeq, ev_sSet, ev_callE, ev_aC, ev_vr, ev_vq, ev_kk, ev_aN, ev_asD, ev_op1, ev_op2, List.getElem?_cons_zero, List.getElem?_cons_succ, bind_ok, List.length_cons, List.length_nil, Nat.zero_add, Nat.reduceAdd, if_true, onR_ok, slot_val, List.set_cons_succ, List.set_cons_zero, RV.d_val, RV.d_own, m2, sub_ii, addA_ii, le_ii, bl_ok]
      congr 1
      by_cases z : 2 * k + s ≤ many + 1
      · rw [decide_eq_true z, decide_eq_true (by omega)]
      · rw [decide_eq_false z, decide_eq_false (by omega)]
    exact lcB_if (ρ' := [.val (.cel 0), s1, s2, s3, .val (.int (many : Int)), s5, .val (.int (s : Int)), s7, .val (.int (k : Int)), s9, s10, s11, s12, s13, s14, s15, s16, s17, s18, s19, s20, s21]) rfl et rfl)
  rw [ec]
  unfold sFrz
  rw [fz, ev_sSet, c, onR_ok]
  rfl
end
end K78

set_option Elab.async false
set_option linter.all false
set_option maxRecDepth 100000
set_option maxHeartbeats 4000000
set_option exponentiation.threshold 20000
namespace K78
open PySem PySem.Spec PyProof.Rows L2 Dn Dn.Pa Dn.Rt
open Dn.Pen (penC PenI PenI.mono ev_compE lcM_nil lcM_cons lcM_all lcB_val all_true own_ok)
theorem comp_zip {q : Ev → M (List D)} {ρ : Ev} {xs ys : List Rat} {f : List D → M RV} {op : Rat → Rat → Rat} {i j : Nat} {st : Store} (hf : ∀ x ∈ xs, ∀ y ∈ ys, f [rt x, rt y] st = .ok (.val (rt (op x y))) st)
    (hq : q ρ st = .ok (List.zipWith (fun x y => D.tup [x, y]) (xs.map rt) (ys.map rt)) st) (hl : xs.length ≤ 1000)
    (ht : ∀ x y : D, ∃ ρ', (Tg.tp [i, j]).put (.tup [x, y]) (wipeE ρ [i, j]) = some ρ' ∧ ρ'[i]? = some (.val x) ∧ ρ'[j]? = some (.val y)) :
    (compE q (.tp [i, j]) (fun _ => pure true) (asD (callE 2 f (aC (vr i) (aC (vr j) (aN))))) [i, j]) ρ st = .ok (.own ((List.zipWith op xs ys).map rt)) st := by
  have e : (List.zipWith op xs ys).map rt = (xs.zip ys).map fun p => rt (op p.1 p.2) := by
    have : List.zipWith op xs ys = (xs.zip ys).map fun p => op p.1 p.2 := by
      rw [List.map_zip_eq_zipWith]
      rfl
    rw [this, List.map_map]
    rfl
  refine comp_ok hq (by rw [List.length_zipWith, List.length_map, List.length_map]; omega) ?_
  rw [zw_pairs, e]
  refine lcM_map (fun p : Rat × Rat => D.tup [rt p.1, rt p.2]) (fun p => rt (op p.1 p.2)) fun p hp => ?_
  obtain ⟨ρ', e1, e2, e3⟩ := ht (rt p.1) (rt p.2)
  refine lcB_val e1 ?_
  have := hf p.1 (List.of_mem_zip hp).1 p.2 (List.of_mem_zip hp).2
  simp -implicitDefEqProofs only [ev_asD, ev_callE, ev_aC, ev_vr, ev_aN, e2, e3, bind_ok, List.length_cons, List.length_nil, Nat.zero_add, Nat.reduceAdd, if_true, this, RV.d_val]
theorem ne_nil (l : List Nat) (st : Store) : neM (.lst (l.map fun (i : Nat) => D.int (i : Int))) (.lst []) st = .ok (.val (.bl (!l.isEmpty))) st := by
  cases l with
  | nil => exact ne_self st rfl (by simp [D.py, D.pyAll, PyData.depth, PyData.depthAll])
  | cons a l =>
    have h1 : okE (.lst ((a :: l).map fun (i : Nat) => D.int (i : Int))) = true := by
      refine okE_nice (nice_map _ (fun _ => rfl) _) ?_
      have := dep_all (fun (i : Nat) => D.int (i : Int)) 1 (fun _ => by simp [D.py, PyData.depth]) (a :: l)
      simp only [D.py, PyData.depth]
      omega
    have h2 : okE (.lst []) = true := rfl
    have e : eqO (.lst ((a :: l).map fun (i : Nat) => D.int (i : Int))) (.lst []) = some false := by
      show (if okE (.lst ((a :: l).map fun (i : Nat) => D.int (i : Int))) && okE (.lst []) then some _ else none) = _
      rw [h1, h2]
      rfl
    unfold neM
    rw [e]
    rfl
section
variable {r : Store} {st : Store} {n : Int} {s1 s2 s3 s4 s5 s6 s7 s8 s9 s10 s11 s12 s13 s14 s15 s16 s17 s18 s19 s20 s21 : Slot}
variable {ps ws : List Rat} {many s : Nat} (hp : ∀ x ∈ ps, Bd 3 x) (hw : ∀ x ∈ ws, Bd 3 x) (hl : ws.length = ps.length) (l1 : 1 ≤ ps.length) (l5 : ps.length ≤ 5) (m1 : 1 ≤ many) (m12 : many ≤ 12) (hs1 : s ≤ 1)
include hp hw hl l1 l5 m1 m12 hs1
theorem hank_bd {k : Nat} (hk : 2 * k + s ≤ many + 1) : ∀ xs ∈ hank (powR ps ws many) k s, xs.length = k ∧ ∀ x ∈ xs, Bd 306 x := fun xs hx => by
  unfold hank at hx
  obtain ⟨i, hi, rfl⟩ := List.mem_map.mp hx
  have hi := List.mem_range.mp hi
  refine ⟨by simp, fun x hx => ?_⟩
  obtain ⟨j, hj, rfl⟩ := List.mem_map.mp hx
  have hj := List.mem_range.mp hj
  have hlt : i + j + s < (powR ps ws many).length := by rw [powR_len hp hw hl l1 l5 m1 m12]; omega
  rw [List.getD_eq_getElem?_getD, List.getElem?_eq_getElem hlt]
  exact powR_bd hp hw hl l1 l5 m1 m12 _ (List.getElem_mem _)
theorem z0_ok (hne : szs many s ≠ []) (h : PenI r n st) (hn : n ≤ 900000) : ∃ (k : Nat) (st' : Store), z0 [.val (.cel 0), s1, .val (row ps), .val (row ws), .val (.int (many : Int)), .val (row (powR ps ws many)), .val (.int (s : Int)), .own ((szs many s).map fun (i : Nat) => D.int (i : Int)), s8, s9, s10, s11, s12, s13, s14, s15, s16, s17, s18, s19, s20, s21] st = .nx [.val (.cel 0), s1, .val (row ps), .val (row ws), .val (.int (many : Int)), .val (row (powR ps ws many)), .val (.int (s : Int)), .val (.lst ((szs many s).map fun (i : Nat) => D.int (i : Int))), .val (.int (k : Int)), s9, s10, s11, s12, s13, s14, s15, s16, s17, s18, s19, s20, s21] st' ∧ k ∈ szs many s ∧ PenI r (n + 1) st' := by
  have hlen : 0 < (szs many s).length := by
    cases h : szs many s with
    | nil => exact (hne h).elim
    | cons a l => simp
  obtain ⟨i, y, st1, e1, y1, q1⟩ := pick (l := (szs many s).map fun (i : Nat) => D.int (i : Int)) h (by omega) (by rw [List.length_map]; exact hlen) (by rw [List.length_map]; have := szs_len many s; omega)
  rw [← pick_is] at e1
  have hy := one_of y1
  obtain ⟨k, hk, rfl⟩ := List.mem_map.mp hy
  refine ⟨k, st1, ?_, hk, q1⟩
  have fz : frzL [7] [.val (.cel 0), s1, .val (row ps), .val (row ws), .val (.int (many : Int)), .val (row (powR ps ws many)), .val (.int (s : Int)), .own ((szs many s).map fun (i : Nat) => D.int (i : Int)), s8, s9, s10, s11, s12, s13, s14, s15, s16, s17, s18, s19, s20, s21] = [.val (.cel 0), s1, .val (row ps), .val (row ws), .val (.int (many : Int)), .val (row (powR ps ws many)), .val (.int (s : Int)), .val (.lst ((szs many s).map fun (i : Nat) => D.int (i : Int))), s8, s9, s10, s11, s12, s13, s14, s15, s16, s17, s18, s19, s20, s21] := rfl
  have ez : z0 = sFrz [7] (sSet 8 (callE 2 f__law_pick (aC (vr 0) (aC (vr 7) (aN))))) := rfl
  rw [ez]
  unfold sFrz
  rw [fz]
  simp -implicitDefEqProofs only [ev_sSeq, ev_sSet, ev_callE, ev_aC, ev_vr, ev_vq, ev_kk, ev_aN, ev_asD, ev_op1, ev_op2, List.getElem?_cons_zero, List.getElem?_cons_succ, bind_ok, List.length_cons, List.length_nil, Nat.zero_add, Nat.reduceAdd, if_true, onR_ok, slot_val, List.set_cons_succ, List.set_cons_zero, RV.d_val, RV.d_own, e1]
  rw [if_pos (by simp)]
section
variable {k : Nat} (k1 : 1 ≤ k) (k6 : k ≤ 6) (hk : 2 * k + s ≤ many + 1)
include k1 k6 hk
theorem z1_ok (h : PenI r n st) (hn : n ≤ 800000) : ∃ st' : Store, z1 [.val (.cel 0), s1, .val (row ps), .val (row ws), .val (.int (many : Int)), .val (row (powR ps ws many)), .val (.int (s : Int)), .val (.lst ((szs many s).map fun (i : Nat) => D.int (i : Int))), .val (.int (k : Int)), s9, s10, s11, s12, s13, s14, s15, s16, s17, s18, s19, s20, s21] st = .nx [.val (.cel 0), s1, .val (row ps), .val (row ws), .val (.int (many : Int)), .val (row (powR ps ws many)), .val (.int (s : Int)), .val (.lst ((szs many s).map fun (i : Nat) => D.int (i : Int))), .val (.int (k : Int)), .val (rows (hank (powR ps ws many) k s)), s10, s11, s12, s13, s14, s15, s16, s17, s18, s19, s20, s21] st' ∧ PenI r (n + 37) st' := by
  have hb := powR_bd hp hw hl l1 l5 m1 m12
  have hlen := powR_len hp hw hl l1 l5 m1 m12
  obtain ⟨d, st1, e1, g1, q1⟩ := given_ok hb (by decide) (by omega) h (by omega)
  have hk' := hankel_rt (st := st1) g1 hb (by decide) (n := k) (s := s) (by rw [hlen]; exact hk) (by rw [hlen]; exact m12) k1 k6 hs1
  refine ⟨st1, ?_, q1.mono (by rw [hlen]; omega)⟩
  have fz : frzL [5, 6, 8] [.val (.cel 0), s1, .val (row ps), .val (row ws), .val (.int (many : Int)), .val (row (powR ps ws many)), .val (.int (s : Int)), .val (.lst ((szs many s).map fun (i : Nat) => D.int (i : Int))), .val (.int (k : Int)), s9, s10, s11, s12, s13, s14, s15, s16, s17, s18, s19, s20, s21] = [.val (.cel 0), s1, .val (row ps), .val (row ws), .val (.int (many : Int)), .val (row (powR ps ws many)), .val (.int (s : Int)), .val (.lst ((szs many s).map fun (i : Nat) => D.int (i : Int))), .val (.int (k : Int)), s9, s10, s11, s12, s13, s14, s15, s16, s17, s18, s19, s20, s21] := rfl
  unfold z1 sFrz
  rw [fz]
  simp -implicitDefEqProofs only [ev_sSeq, ev_sSet, ev_callE, ev_aC, ev_vr, ev_vq, ev_kk, ev_aN, ev_asD, ev_op1, ev_op2, List.getElem?_cons_zero, List.getElem?_cons_succ, bind_ok, List.length_cons, List.length_nil, Nat.zero_add, Nat.reduceAdd, if_true, onR_ok, slot_val, List.set_cons_succ, List.set_cons_zero, RV.d_val, RV.d_own, e1, hk']
  rw [if_pos (by simp)]
theorem z2_ok : z2 [.val (.cel 0), s1, .val (row ps), .val (row ws), .val (.int (many : Int)), .val (row (powR ps ws many)), .val (.int (s : Int)), .val (.lst ((szs many s).map fun (i : Nat) => D.int (i : Int))), .val (.int (k : Int)), .val (rows (hank (powR ps ws many) k s)), s10, s11, s12, s13, s14, s15, s16, s17, s18, s19, s20, s21] st = .nx [.val (.cel 0), s1, .val (row ps), .val (row ws), .val (.int (many : Int)), .val (row (powR ps ws many)), .val (.int (s : Int)), .val (.lst ((szs many s).map fun (i : Nat) => D.int (i : Int))), .val (.int (k : Int)), .val (rows (hank (powR ps ws many) k s)), s10, s11, s12, s13, s14, s15, s16, s17, s18, s19, s20, s21] st := by
  have hlen := powR_len hp hw hl l1 l5 m1 m12
  have sq := square_rt (st := st) (xs := powR ps ws many) (n := k) (s := s) (by rw [hlen]; exact hk) (by omega)
  have rp := repr_rows (st := st) (xss := hank (powR ps ws many) k s) (fun xs hx => by
    obtain ⟨a1, a2⟩ := hank_bd hp hw hl l1 l5 m1 m12 hs1 hk xs hx
    exact ⟨by omega, fun x hx => (a2 x hx).mono (by decide)⟩) (by unfold hank; rw [List.length_map, List.length_range]; omega)
  have fz : frzL [5, 6, 8] [.val (.cel 0), s1, .val (row ps), .val (row ws), .val (.int (many : Int)), .val (row (powR ps ws many)), .val (.int (s : Int)), .val (.lst ((szs many s).map fun (i : Nat) => D.int (i : Int))), .val (.int (k : Int)), .val (rows (hank (powR ps ws many) k s)), s10, s11, s12, s13, s14, s15, s16, s17, s18, s19, s20, s21] = [.val (.cel 0), s1, .val (row ps), .val (row ws), .val (.int (many : Int)), .val (row (powR ps ws many)), .val (.int (s : Int)), .val (.lst ((szs many s).map fun (i : Nat) => D.int (i : Int))), .val (.int (k : Int)), .val (rows (hank (powR ps ws many) k s)), s10, s11, s12, s13, s14, s15, s16, s17, s18, s19, s20, s21] := rfl
  unfold z2 sFrz
  rw [fz]
  simp -implicitDefEqProofs only [ev_sIf, ev_tstE, ev_sSeq, ev_sSet, ev_callE, ev_aC, ev_vr, ev_vq, ev_kk, ev_aN, ev_asD, ev_op1, ev_op2, List.getElem?_cons_zero, List.getElem?_cons_succ, bind_ok, List.length_cons, List.length_nil, Nat.zero_add, Nat.reduceAdd, if_true, onR_ok, slot_val, List.set_cons_succ, List.set_cons_zero, RV.d_val, RV.d_own, sq, rp, ne_ss, beq_self_eq_true, Bool.not_true, bl_ok, Bool.false_eq_true, if_false, ev_sNil]
theorem z3_ok : z3 [.val (.cel 0), s1, .val (row ps), .val (row ws), .val (.int (many : Int)), .val (row (powR ps ws many)), .val (.int (s : Int)), .val (.lst ((szs many s).map fun (i : Nat) => D.int (i : Int))), .val (.int (k : Int)), .val (rows (hank (powR ps ws many) k s)), s10, s11, s12, s13, s14, s15, s16, s17, s18, s19, s20, s21] st = .nx [.val (.cel 0), s1, .val (row ps), .val (row ws), .val (.int (many : Int)), .val (row (powR ps ws many)), .val (.int (s : Int)), .val (.lst ((szs many s).map fun (i : Nat) => D.int (i : Int))), .val (.int (k : Int)), .val (rows (hank (powR ps ws many) k s)), .val (row (ledR ps ws s)), s11, s12, s13, s14, s15, s16, s17, s18, s19, s20, s21] st := by
  by_cases e : s = 1
  · subst e
    have c := comp_zip (st := st) (q := itZA (vq 3) (vq 2)) (ρ := [.val (.cel 0), s1, .val (row ps), .val (row ws), .val (.int (many : Int)), .val (row (powR ps ws many)), .val (.int ((1 : Nat) : Int)), .val (.lst ((szs many 1).map fun (i : Nat) => D.int (i : Int))), .val (.int (k : Int)), .val (rows (hank (powR ps ws many) k 1)), s10, s11, s12, s13, s14, s15, s16, s17, s18, s19, s20, s21]) (xs := ws) (ys := ps) (f := f__law_times) (op := (· * ·)) (i := 19) (j := 20) (fun x hx y hy => times_rt (hw x hx) (hp y hy) (by decide)) rfl (by omega) fun x y => ⟨_, rfl, rfl, rfl⟩
    have el : ledR ps ws 1 = List.zipWith (· * ·) ws ps := rfl
    have hz : (((1 : Nat) : Int) == 1) = true := rfl
    unfold z3
    simp -implicitDefEqProofs only [ev_sSet, ev_ifR, ev_tstE, ev_op2, ev_op1, ev_vq, ev_kk, ev_asD, List.getElem?_cons_zero, List.getElem?_cons_succ, bind_ok, eq_ii, hz, bl_ok, if_true, c, RV.d_own, tup_row (st := st) (show (List.zipWith (· * ·) ws ps).length ≤ 1000 by rw [List.length_zipWith]; omega), onR_ok, slot_val, List.set_cons_succ, List.set_cons_zero, el]
    rw [if_pos (by simp)]
  · have s0 : s = 0 := by omega
    subst s0
    have el : ledR ps ws 0 = ws := rfl
    have hz : (((0 : Nat) : Int) == 1) = false := rfl
    unfold z3
    simp -implicitDefEqProofs only [ev_sSet, ev_ifR, ev_tstE, ev_op2, ev_asR, ev_vq, ev_vr, ev_kk, List.getElem?_cons_zero, List.getElem?_cons_succ, bind_ok, eq_ii, hz, bl_ok, Bool.false_eq_true, if_false, onR_ok, slot_val, List.set_cons_succ, List.set_cons_zero, el]
    rw [if_pos (by simp)]
theorem z4_ok : z4 [.val (.cel 0), s1, .val (row ps), .val (row ws), .val (.int (many : Int)), .val (row (powR ps ws many)), .val (.int (s : Int)), .val (.lst ((szs many s).map fun (i : Nat) => D.int (i : Int))), .val (.int (k : Int)), .val (rows (hank (powR ps ws many) k s)), .val (row (ledR ps ws s)), s11, s12, s13, s14, s15, s16, s17, s18, s19, s20, s21] st = .nx [.val (.cel 0), s1, .val (row ps), .val (row ws), .val (.int (many : Int)), .val (row (powR ps ws many)), .val (.int (s : Int)), .val (.lst ((szs many s).map fun (i : Nat) => D.int (i : Int))), .val (.int (k : Int)), .val (rows (hank (powR ps ws many) k s)), .val (row (ledR ps ws s)), .val (rows (pows ps k)), s12, s13, s14, s15, s16, s17, s18, s19, s20, s21] st := by
  have pt := power_table_rt (st := st) (gv_row ps) hp (by decide) l1 (by omega) k1 k6
  have fz : frzL [8] [.val (.cel 0), s1, .val (row ps), .val (row ws), .val (.int (many : Int)), .val (row (powR ps ws many)), .val (.int (s : Int)), .val (.lst ((szs many s).map fun (i : Nat) => D.int (i : Int))), .val (.int (k : Int)), .val (rows (hank (powR ps ws many) k s)), .val (row (ledR ps ws s)), s11, s12, s13, s14, s15, s16, s17, s18, s19, s20, s21] = [.val (.cel 0), s1, .val (row ps), .val (row ws), .val (.int (many : Int)), .val (row (powR ps ws many)), .val (.int (s : Int)), .val (.lst ((szs many s).map fun (i : Nat) => D.int (i : Int))), .val (.int (k : Int)), .val (rows (hank (powR ps ws many) k s)), .val (row (ledR ps ws s)), s11, s12, s13, s14, s15, s16, s17, s18, s19, s20, s21] := rfl
  unfold z4 sFrz
  rw [fz]
  simp -implicitDefEqProofs only [ev_sSeq, ev_sSet, ev_callE, ev_aC, ev_vr, ev_vq, ev_kk, ev_aN, ev_asD, ev_op1, ev_op2, List.getElem?_cons_zero, List.getElem?_cons_succ, bind_ok, List.length_cons, List.length_nil, Nat.zero_add, Nat.reduceAdd, if_true, onR_ok, slot_val, List.set_cons_succ, List.set_cons_zero, RV.d_val, RV.d_own, pt]
  rw [if_pos (by simp)]
theorem led_bd : ∀ x ∈ ledR ps ws s, Bd 6 x := fun x hx => by
  unfold ledR at hx
  split at hx
  · obtain ⟨a, ha, b, hb, rfl⟩ := mem_zw hx
    exact (hw a ha).mul (hp b hb)
  · exact (hw x hx).mono (by decide)
theorem getD_bd {xs : List Rat} {b i : Nat} (h : ∀ x ∈ xs, Bd b x) (hi : i < xs.length) : Bd b (xs.getD i 0) := by
  rw [List.getD_eq_getElem?_getD, List.getElem?_eq_getElem hi]
  exact h _ (List.getElem_mem _)
theorem z5_ok : z5 [.val (.cel 0), s1, .val (row ps), .val (row ws), .val (.int (many : Int)), .val (row (powR ps ws many)), .val (.int (s : Int)), .val (.lst ((szs many s).map fun (i : Nat) => D.int (i : Int))), .val (.int (k : Int)), .val (rows (hank (powR ps ws many) k s)), .val (row (ledR ps ws s)), .val (rows (pows ps k)), s12, s13, s14, s15, s16, s17, s18, s19, s20, s21] st = .nx [.val (.cel 0), s1, .val (row ps), .val (row ws), .val (.int (many : Int)), .val (row (powR ps ws many)), .val (.int (s : Int)), .val (.lst ((szs many s).map fun (i : Nat) => D.int (i : Int))), .val (.int (k : Int)), .val (rows (hank (powR ps ws many) k s)), .val (row (ledR ps ws s)), .val (rows (pows ps k)), s12, s13, s14, s15, s16, s17, s18, s19, s20, s21] st := by
  have lp : (pows ps k).length = ps.length := by unfold pows; rw [List.length_map]
  have bp : ∀ xs ∈ pows ps k, xs.length = k ∧ ∀ x ∈ xs, Bd 19 x := fun xs hx => by
    unfold pows at hx
    obtain ⟨p, hpp, rfl⟩ := List.mem_map.mp hx
    refine ⟨by simp, fun x hx => ?_⟩
    obtain ⟨j, hj, rfl⟩ := List.mem_map.mp hx
    have hj := List.mem_range.mp hj
    exact (pow_bd (hp p hpp) j).mono (by omega)
  have t1 := turned_rt (st := st) (xss := pows ps k) (m := k) (n := 19) (by omega) (by omega) (fun xs hx => (bp xs hx).1) k1 k6 (fun xs hx => (bp xs hx).2) (by decide)
  have ll := led_len hl s
  have dg := diagonal_table_rt (st := st) (gv_row (ledR ps ws s)) (led_bd hp hw hl l1 l5 m1 m12 hs1 k1 k6 hk) (by decide) (by omega) (by omega)
  have ltn : (turn k (pows ps k)).length = k := by unfold turn; rw [List.length_map, List.length_range]
  have btn : ∀ xs ∈ turn k (pows ps k), xs.length = ps.length ∧ ∀ x ∈ xs, Bd 19 x := fun xs hx => by
    rw [turn_pows] at hx
    obtain ⟨i, hi, rfl⟩ := List.mem_map.mp hx
    have hi := List.mem_range.mp hi
    refine ⟨by simp, fun x hx => ?_⟩
    obtain ⟨p, hpp, rfl⟩ := List.mem_map.mp hx
    exact (pow_bd (hp p hpp) i).mono (by omega)
  have ldg : (diag (ledR ps ws s)).length = ps.length := by unfold diag; rw [List.length_map, List.length_range, ll]
  have bdg : ∀ xs ∈ diag (ledR ps ws s), xs.length = ps.length ∧ ∀ x ∈ xs, Bd 6 x := fun xs hx => by
    unfold diag at hx
    obtain ⟨i, hi, rfl⟩ := List.mem_map.mp hx
    have hi := List.mem_range.mp hi
    refine ⟨by simp [ll], fun x hx => ?_⟩
    obtain ⟨j, hj, rfl⟩ := List.mem_map.mp hx
    split
    · exact getD_bd hp hw hl l1 l5 m1 m12 hs1 k1 k6 hk (led_bd hp hw hl l1 l5 m1 m12 hs1 k1 k6 hk) hi
    · exact Bd.zero.mono (by decide)
  have p1 := product_rt (st := st) (xss := turn k (pows ps k)) (yss := diag (ledR ps ws s)) (m := ps.length) (w := ps.length) (p := 19) (q := 6) (by omega) (by omega) btn l1 (by omega) ldg l1 (by omega) bdg (by
    have : (19 + 6 + 1) * ps.length ≤ 26 * 5 := Nat.mul_le_mul_left _ l5
    omega)
  have lm : (mulT (turn k (pows ps k)) (diag (ledR ps ws s)) ps.length).length = k := by unfold mulT; rw [List.length_map, ltn]
  have bm : ∀ xs ∈ mulT (turn k (pows ps k)) (diag (ledR ps ws s)) ps.length, xs.length = ps.length ∧ ∀ x ∈ xs, Bd 30 x := fun xs hx => by
    rw [first_prod hl hs1] at hx
    obtain ⟨i, hi, rfl⟩ := List.mem_map.mp hx
    have hi := List.mem_range.mp hi
    refine ⟨by simp, fun x hx => ?_⟩
    obtain ⟨j, hj, rfl⟩ := List.mem_map.mp hx
    have hj := List.mem_range.mp hj
    have b1 := getD_bd hp hw hl l1 l5 m1 m12 hs1 k1 k6 hk hp hj
    have b2 := getD_bd hp hw hl l1 l5 m1 m12 hs1 k1 k6 hk hw (show j < ws.length by omega)
    refine ((pow_bd b1 i).mul (b2.mul (pow_bd b1 s))).mono ?_
    omega
  have p2 := product_rt (st := st) (xss := mulT (turn k (pows ps k)) (diag (ledR ps ws s)) ps.length) (yss := pows ps k) (m := k) (w := ps.length) (p := 30) (q := 19) (by omega) (by omega) bm l1 (by omega) lp k1 k6 bp (by
    have : (30 + 19 + 1) * ps.length ≤ 50 * 5 := Nat.mul_le_mul_left _ l5
    omega)
  rw [hank_prod hl hs1 hk] at p2
  have fz : frzL [11] [.val (.cel 0), s1, .val (row ps), .val (row ws), .val (.int (many : Int)), .val (row (powR ps ws many)), .val (.int (s : Int)), .val (.lst ((szs many s).map fun (i : Nat) => D.int (i : Int))), .val (.int (k : Int)), .val (rows (hank (powR ps ws many) k s)), .val (row (ledR ps ws s)), .val (rows (pows ps k)), s12, s13, s14, s15, s16, s17, s18, s19, s20, s21] = [.val (.cel 0), s1, .val (row ps), .val (row ws), .val (.int (many : Int)), .val (row (powR ps ws many)), .val (.int (s : Int)), .val (.lst ((szs many s).map fun (i : Nat) => D.int (i : Int))), .val (.int (k : Int)), .val (rows (hank (powR ps ws many) k s)), .val (row (ledR ps ws s)), .val (rows (pows ps k)), s12, s13, s14, s15, s16, s17, s18, s19, s20, s21] := rfl
  unfold z5 sFrz
  rw [fz]
  simp -implicitDefEqProofs only [ev_sIf, ev_tstE, ev_sSeq, ev_sSet, ev_callE, ev_aC, ev_vr, ev_vq, ev_kk, ev_aN, ev_asD, ev_op1, ev_op2, List.getElem?_cons_zero, List.getElem?_cons_succ, bind_ok, List.length_cons, List.length_nil, Nat.zero_add, Nat.reduceAdd, if_true, onR_ok, slot_val, List.set_cons_succ, List.set_cons_zero, RV.d_val, RV.d_own, t1, dg, p1, p2, ne_rows, bl_ok, Bool.false_eq_true, if_false, ev_sNil]
end
theorem c7_ok (h : PenI r n st) (hn : n ≤ 700000) : ∃ (t7 t8 t9 t10 t11 : Slot) (st' : Store), c7 [.val (.cel 0), s1, .val (row ps), .val (row ws), .val (.int (many : Int)), .val (row (powR ps ws many)), .val (.int (s : Int)), .own ((szs many s).map fun (i : Nat) => D.int (i : Int)), s8, s9, s10, s11, s12, s13, s14, s15, s16, s17, s18, s19, s20, s21] st = .nx [.val (.cel 0), s1, .val (row ps), .val (row ws), .val (.int (many : Int)), .val (row (powR ps ws many)), .val (.int (s : Int)), t7, t8, t9, t10, t11, s12, s13, s14, s15, s16, s17, s18, s19, s20, s21] st' ∧ PenI r (n + 40) st' := by
  have hc : (tstE (op2 neM (vq 7) (asD (lstE (aN))))) [.val (.cel 0), s1, .val (row ps), .val (row ws), .val (.int (many : Int)), .val (row (powR ps ws many)), .val (.int (s : Int)), .own ((szs many s).map fun (i : Nat) => D.int (i : Int)), s8, s9, s10, s11, s12, s13, s14, s15, s16, s17, s18, s19, s20, s21] st = .ok (!(szs many s).isEmpty) st := by
    have l0 : (lstE (aN)) [.val (.cel 0), s1, .val (row ps), .val (row ws), .val (.int (many : Int)), .val (row (powR ps ws many)), .val (.int (s : Int)), .own ((szs many s).map fun (i : Nat) => D.int (i : Int)), s8, s9, s10, s11, s12, s13, s14, s15, s16, s17, s18, s19, s20, s21] st = .ok (.own []) st := rfl
    simp -implicitDefEqProofs only [ev_tstE, ev_op2, ev_asD, ev_vq, List.getElem?_cons_zero, List.getElem?_cons_succ, bind_ok, l0, RV.d_own, ne_nil, bl_ok]
  by_cases hne : szs many s = []
  · have hb : (!(szs many s).isEmpty) = false := by rw [hne]; rfl
    refine ⟨.own ((szs many s).map fun (i : Nat) => D.int (i : Int)), s8, s9, s10, s11, st, ?_, h.mono (by omega)⟩
    rw [c7_eq, ev_sIf, hc, onR_ok, hb]
    rfl
  · obtain ⟨k, st1, e0, hk, q1⟩ := z0_ok (s1 := s1) (s8 := s8) (s9 := s9) (s10 := s10) (s11 := s11) (s12 := s12) (s13 := s13) (s14 := s14) (s15 := s15) (s16 := s16) (s17 := s17) (s18 := s18) (s19 := s19) (s20 := s20) (s21 := s21) hp hw hl l1 l5 m1 m12 hs1 hne h (by omega)
    obtain ⟨k1, k6, hk'⟩ := mem_szs hk
    obtain ⟨st2, e1, q2⟩ := z1_ok (s1 := s1) (s9 := s9) (s10 := s10) (s11 := s11) (s12 := s12) (s13 := s13) (s14 := s14) (s15 := s15) (s16 := s16) (s17 := s17) (s18 := s18) (s19 := s19) (s20 := s20) (s21 := s21) hp hw hl l1 l5 m1 m12 hs1 k1 k6 hk' q1 (by omega)
    have e2 := z2_ok (st := st2) (s1 := s1) (s10 := s10) (s11 := s11) (s12 := s12) (s13 := s13) (s14 := s14) (s15 := s15) (s16 := s16) (s17 := s17) (s18 := s18) (s19 := s19) (s20 := s20) (s21 := s21) hp hw hl l1 l5 m1 m12 hs1 k1 k6 hk'
    have e3 := z3_ok (st := st2) (s1 := s1) (s10 := s10) (s11 := s11) (s12 := s12) (s13 := s13) (s14 := s14) (s15 := s15) (s16 := s16) (s17 := s17) (s18 := s18) (s19 := s19) (s20 := s20) (s21 := s21) hp hw hl l1 l5 m1 m12 hs1 k1 k6 hk'
    have e4 := z4_ok (st := st2) (s1 := s1) (s11 := s11) (s12 := s12) (s13 := s13) (s14 := s14) (s15 := s15) (s16 := s16) (s17 := s17) (s18 := s18) (s19 := s19) (s20 := s20) (s21 := s21) hp hw hl l1 l5 m1 m12 hs1 k1 k6 hk'
    have e5 := z5_ok (st := st2) (s1 := s1) (s12 := s12) (s13 := s13) (s14 := s14) (s15 := s15) (s16 := s16) (s17 := s17) (s18 := s18) (s19 := s19) (s20 := s20) (s21 := s21) hp hw hl l1 l5 m1 m12 hs1 k1 k6 hk'
    have hb : (!(szs many s).isEmpty) = true := by
      cases h : szs many s with
      | nil => exact (hne h).elim
      | cons a l => rfl
    refine ⟨.val (.lst ((szs many s).map fun (i : Nat) => D.int (i : Int))), .val (.int (k : Int)), .val (rows (hank (powR ps ws many) k s)), .val (row (ledR ps ws s)), .val (rows (pows ps k)), st2, ?_, q2.mono (by omega)⟩
    rw [c7_eq, ev_sIf, hc, onR_ok, hb, if_pos rfl, ev_sSeq, e0, seq_nx, ev_sSeq, e1, seq_nx, ev_sSeq, e2, seq_nx, ev_sSeq, e3, seq_nx, ev_sSeq, e4, seq_nx, e5]
end
end K78

set_option Elab.async false
set_option linter.all false
set_option maxRecDepth 100000
set_option maxHeartbeats 4000000
set_option exponentiation.threshold 20000
namespace K78
open PySem PySem.Spec PyProof.Rows L2 Dn Dn.Pa Dn.Rt
open Dn.Pen (penC PenI PenI.mono ev_compE lcM_nil lcM_cons lcM_all lcB_val all_true own_ok)
def fB : SS := sSeq (sFrz [14] (sIf (tstE (op2 neM (asD (op2 ixM (vq 13) (vq 15))) (asD (callE 2 f__law_times (aC (vr 14) (aC (asD (op2 ixM (vq 5) (vq 15))) (aN))))))) (sRet (asR (kk (.bl false)))) (sNil))) (sFrz [12, 14] (sSet 14 (callE 2 f__law_times (aC (vr 14) (aC (vr 12) (aN))))))
def fb0 : SS := sFrz [14] (sIf (tstE (op2 neM (asD (op2 ixM (vq 13) (vq 15))) (asD (callE 2 f__law_times (aC (vr 14) (aC (asD (op2 ixM (vq 5) (vq 15))) (aN))))))) (sRet (asR (kk (.bl false)))) (sNil))
def fb1 : SS := sFrz [12, 14] (sSet 14 (callE 2 f__law_times (aC (vr 14) (aC (vr 12) (aN)))))
theorem fB_eq : fB = sSeq fb0 fb1 := rfl
theorem c11_eq : c11 = sFor (itR1 (vq 4)) (.nm 15) fB := rfl
theorem sl_take (xs : List Rat) (c : Nat) (hc : c ≤ xs.length) (st : Store) : sliceM (row xs) none (some (c : Int)) st = .ok (.val (row (xs.take c))) st := by
  have e : Dn.cutD (xs.map rt) none (some (c : Int)) = (xs.take c).map rt := by
    unfold Dn.cutD
    rw [HT.sIx_none, HT.sIx_nat, List.length_map, Nat.min_eq_left hc, List.drop_zero, Nat.sub_zero, List.map_take]
  show Res.ok (RV.val (.tup (Dn.cutD (xs.map rt) none (some (c : Int))))) st = _
  rw [e]
  rfl
theorem sl_drop (xs : List Rat) (c : Nat) (hc : c ≤ xs.length) (st : Store) : sliceM (row xs) (some (c : Int)) none st = .ok (.val (row (xs.drop c))) st := by
  have e : Dn.cutD (xs.map rt) (some (c : Int)) none = (xs.drop c).map rt := by
    unfold Dn.cutD
    rw [HT.sIx_none, HT.sIx_nat, List.length_map, Nat.min_eq_left hc, ← List.map_drop]
    refine List.take_of_length_le ?_
    rw [List.length_map, List.length_drop]
    exact Nat.le_refl _
  show Res.ok (RV.val (.tup (Dn.cutD (xs.map rt) (some (c : Int)) none))) st = _
  rw [e]
  rfl
theorem ev_slE (f : Ev → M D) (lo hi : Ev → M (Option Int)) {ρ : Ev} {st : Store} : slE f lo hi ρ st = (f ρ st).bind fun d s => (lo ρ s).bind fun l s => (hi ρ s).bind fun h s => sliceM d l h s := by
  unfold slE
  rw [m_bind]; congr 1
theorem ev_pN {ρ : Ev} {st : Store} : pN ρ st = .ok none st := rfl
theorem ev_pS (f : Ev → M D) {ρ : Ev} {st st' : Store} {i : Int} (h : f ρ st = .ok (.int i) st') : pS f ρ st = .ok (some i) st' := by
  unfold pS
  rw [m_bind, h]
  rfl
section
variable {r : Store} {st : Store} {n : Int} {s1 s2 s3 s4 s5 s6 s7 s8 s9 s10 s11 s12 s13 s14 s15 s16 s17 s18 s19 s20 s21 : Slot}
theorem c8_ok (h : PenI r n st) (hn : n ≤ 900000) : ∃ (y : Rat) (st' : Store), c8 [.val (.cel 0), s1, s2, s3, s4, s5, s6, s7, s8, s9, s10, s11, s12, s13, s14, s15, s16, s17, s18, s19, s20, s21] st = .nx [.val (.cel 0), s1, s2, s3, s4, s5, s6, s7, s8, s9, s10, s11, .val (rt y), s13, s14, s15, s16, s17, s18, s19, s20, s21] st' ∧ Bd 2 y ∧ PenI r (n + 1) st' := by
  obtain ⟨i, z, st1, e1, m1, q1⟩ := pick (l := [.tup [.int 2, .int 1], .tup [.int (-1), .int 1], .tup [.int 1, .int 2]]) h (by omega) (by decide) (by decide)
  rw [← pick_is] at e1
  have hz := one_of m1
  simp only [List.mem_cons, List.not_mem_nil, or_false] at hz
  obtain ⟨y, rfl, hy⟩ : ∃ y : Rat, z = rt y ∧ Bd 2 y := by
    rcases hz with rfl | rfl | rfl
    · exact ⟨2, by kernel_rfl, by constructor <;> decide +kernel⟩
    · exact ⟨-1, by kernel_rfl, by constructor <;> decide +kernel⟩
    · exact ⟨1 / 2, by kernel_rfl, by constructor <;> decide +kernel⟩
  refine ⟨y, st1, ?_, hy, q1⟩
  have l1 : (lstE (aC (tupE (aC (kk (.int 2)) (aC (kk (.int 1)) (aN)))) (aC (tupE (aC (asD (op1 negM (kk (.int 1)))) (aC (kk (.int 1)) (aN)))) (aC (tupE (aC (kk (.int 1)) (aC (kk (.int 2)) (aN)))) (aN))))) [.val (.cel 0), s1, s2, s3, s4, s5, s6, s7, s8, s9, s10, s11, s12, s13, s14, s15, s16, s17, s18, s19, s20, s21] st = .ok (.own [.tup [.int 2, .int 1], .tup [.int (-1), .int 1], .tup [.int 1, .int 2]]) st := rfl
  unfold c8
  simp -implicitDefEqProofs only [ev_sSet, ev_callE, ev_aC, ev_vr, ev_aN, ev_asD, l1, List.getElem?_cons_zero, List.getElem?_cons_succ, bind_ok, List.length_cons, List.length_nil, Nat.zero_add, Nat.reduceAdd, if_true, onR_ok, slot_val, List.set_cons_succ, List.set_cons_zero, RV.d_val, RV.d_own, e1]
  rw [if_pos (by simp)]
section
variable {ps ws : List Rat} {many : Nat} {y : Rat} (hp : ∀ x ∈ ps, Bd 3 x) (hw : ∀ x ∈ ws, Bd 3 x) (hl : ws.length = ps.length) (l1 : 1 ≤ ps.length) (l5 : ps.length ≤ 5) (m1 : 1 ≤ many) (m12 : many ≤ 12) (hy : Bd 2 y)
include hp hw hl l1 l5 m1 m12 hy
theorem far_bd : ∀ x ∈ ps.map fun p => y * p, Bd 5 x := fun x hx => by
  obtain ⟨p, hpp, rfl⟩ := List.mem_map.mp hx
  exact hy.mul (hp p hpp)
theorem c9_ok : c9 [.val (.cel 0), s1, .val (row ps), .val (row ws), .val (.int (many : Int)), .val (row (powR ps ws many)), s6, s7, s8, s9, s10, s11, .val (rt y), s13, s14, s15, s16, s17, s18, s19, s20, s21] st = .nx [.val (.cel 0), s1, .val (row ps), .val (row ws), .val (.int (many : Int)), .val (row (powR ps ws many)), s6, s7, s8, s9, s10, s11, .val (rt y), .val (row (powR (ps.map fun p => y * p) ws many)), s14, s15, s16, s17, s18, s19, s20, s21] st := by
  have c := comp_seq (st := st) (q := itS (vq 2)) (T := .nm 21) (f := asD (callE 2 f__law_times (aC (vr 12) (aC (vr 21) (aN))))) (vs := [21]) (ρ := [.val (.cel 0), s1, .val (row ps), .val (row ws), .val (.int (many : Int)), .val (row (powR ps ws many)), s6, s7, s8, s9, s10, s11, .val (rt y), s13, s14, s15, s16, s17, s18, s19, s20, s21]) rt (fun p => rt (y * p)) ps (fun p => [.val (.cel 0), s1, .val (row ps), .val (row ws), .val (.int (many : Int)), .val (row (powR ps ws many)), s6, s7, s8, s9, s10, s11, .val (rt y), s13, s14, s15, s16, s17, s18, s19, s20, .val (rt p)]) rfl (by omega) (fun _ => rfl) fun p hpp => by
    have := times_rt (st := st) hy (hp p hpp) (by decide)
    simp -implicitDefEqProofs only [ev_sSeq, ev_sSet, ev_callE, ev_aC, ev_vr, ev_vq, ev_kk, ev_aN, ev_asD, ev_op1, ev_op2, List.getElem?_cons_zero, List.getElem?_cons_succ, bind_ok, List.length_cons, List.length_nil, Nat.zero_add, Nat.reduceAdd, if_true, onR_ok, slot_val, List.set_cons_succ, List.set_cons_zero, RV.d_val, RV.d_own, this]
  have e : (ps.map fun p => rt (y * p)) = (ps.map fun p => y * p).map rt := by rw [List.map_map]; rfl
  rw [e] at c
  have p := power_sums_rt (st := st) (gv_row (ps.map fun p => y * p)) (gv_row ws) (far_bd hp hw hl l1 l5 m1 m12 hy) hw (by decide) (by decide) (by rw [List.length_map]; exact hl) (by rw [List.length_map]; exact l1) (by rw [List.length_map]; omega) m1 m12
  have fz : frzL [12] [.val (.cel 0), s1, .val (row ps), .val (row ws), .val (.int (many : Int)), .val (row (powR ps ws many)), s6, s7, s8, s9, s10, s11, .val (rt y), s13, s14, s15, s16, s17, s18, s19, s20, s21] = [.val (.cel 0), s1, .val (row ps), .val (row ws), .val (.int (many : Int)), .val (row (powR ps ws many)), s6, s7, s8, s9, s10, s11, .val (rt y), s13, s14, s15, s16, s17, s18, s19, s20, s21] := rfl
  unfold c9 sFrz
  rw [fz]
  simp -implicitDefEqProofs only [ev_sSeq, ev_sSet, ev_callE, ev_aC, ev_vr, ev_vq, ev_kk, ev_aN, ev_asD, ev_op1, ev_op2, List.getElem?_cons_zero, List.getElem?_cons_succ, bind_ok, List.length_cons, List.length_nil, Nat.zero_add, Nat.reduceAdd, if_true, onR_ok, slot_val, List.set_cons_succ, List.set_cons_zero, RV.d_val, RV.d_own, c, tup_row (st := st) (show (ps.map fun p => y * p).length ≤ 1000 by rw [List.length_map]; omega), p]
  rw [if_pos (by simp)]
theorem c10_ok : c10 [.val (.cel 0), s1, .val (row ps), .val (row ws), .val (.int (many : Int)), .val (row (powR ps ws many)), s6, s7, s8, s9, s10, s11, .val (rt y), .val (row (powR (ps.map fun p => y * p) ws many)), s14, s15, s16, s17, s18, s19, s20, s21] st = .nx [.val (.cel 0), s1, .val (row ps), .val (row ws), .val (.int (many : Int)), .val (row (powR ps ws many)), s6, s7, s8, s9, s10, s11, .val (rt y), .val (row (powR (ps.map fun p => y * p) ws many)), .val (rt (y ^ 0)), s15, s16, s17, s18, s19, s20, s21] st := by
  rw [Rat.pow_zero]
  rfl
theorem fB_ok {j : Nat} (hj : j < many) : fB [.val (.cel 0), s1, .val (row ps), .val (row ws), .val (.int (many : Int)), .val (row (powR ps ws many)), s6, s7, s8, s9, s10, s11, .val (rt y), .val (row (powR (ps.map fun p => y * p) ws many)), .val (rt (y ^ j)), .val (.int (j : Int)), s16, s17, s18, s19, s20, s21] st = .nx [.val (.cel 0), s1, .val (row ps), .val (row ws), .val (.int (many : Int)), .val (row (powR ps ws many)), s6, s7, s8, s9, s10, s11, .val (rt y), .val (row (powR (ps.map fun p => y * p) ws many)), .val (rt (y ^ (j + 1))), .val (.int (j : Int)), s16, s17, s18, s19, s20, s21] st := by
  have hlen := powR_len hp hw hl l1 l5 m1 m12
  have hlf : (powR (ps.map fun p => y * p) ws many).length = many := by simp [powR]
  have b1 : Bd (1 + 2 * j) (y ^ j) := pow_bd hy j
  have b2 : Bd 306 ((powR ps ws many).getD j 0) := by
    rw [List.getD_eq_getElem?_getD, List.getElem?_eq_getElem (by omega)]
    exact powR_bd hp hw hl l1 l5 m1 m12 _ (List.getElem_mem _)
  have x1 := ix_row (st := st) (xs := powR (ps.map fun p => y * p) ws many) (k := j) (by omega)
  have x2 := ix_row (st := st) (xs := powR ps ws many) (k := j) (by omega)
  have t1 := times_rt (st := st) b1 b2 (by omega)
  have t2 := times_rt (st := st) b1 hy (by omega)
  rw [pow_far hl y hj] at x1
  have fz0 : frzL [14] [.val (.cel 0), s1, .val (row ps), .val (row ws), .val (.int (many : Int)), .val (row (powR ps ws many)), s6, s7, s8, s9, s10, s11, .val (rt y), .val (row (powR (ps.map fun p => y * p) ws many)), .val (rt (y ^ j)), .val (.int (j : Int)), s16, s17, s18, s19, s20, s21] = [.val (.cel 0), s1, .val (row ps), .val (row ws), .val (.int (many : Int)), .val (row (powR ps ws many)), s6, s7, s8, s9, s10, s11, .val (rt y), .val (row (powR (ps.map fun p => y * p) ws many)), .val (rt (y ^ j)), .val (.int (j : Int)), s16, s17, s18, s19, s20, s21] := rfl
  have fz1 : frzL [12, 14] [.val (.cel 0), s1, .val (row ps), .val (row ws), .val (.int (many : Int)), .val (row (powR ps ws many)), s6, s7, s8, s9, s10, s11, .val (rt y), .val (row (powR (ps.map fun p => y * p) ws many)), .val (rt (y ^ j)), .val (.int (j : Int)), s16, s17, s18, s19, s20, s21] = [.val (.cel 0), s1, .val (row ps), .val (row ws), .val (.int (many : Int)), .val (row (powR ps ws many)), s6, s7, s8, s9, s10, s11, .val (rt y), .val (row (powR (ps.map fun p => y * p) ws many)), .val (rt (y ^ j)), .val (.int (j : Int)), s16, s17, s18, s19, s20, s21] := rfl
  have w0 : fb0 [.val (.cel 0), s1, .val (row ps), .val (row ws), .val (.int (many : Int)), .val (row (powR ps ws many)), s6, s7, s8, s9, s10, s11, .val (rt y), .val (row (powR (ps.map fun p => y * p) ws many)), .val (rt (y ^ j)), .val (.int (j : Int)), s16, s17, s18, s19, s20, s21] st = .nx [.val (.cel 0), s1, .val (row ps), .val (row ws), .val (.int (many : Int)), .val (row (powR ps ws many)), s6, s7, s8, s9, s10, s11, .val (rt y), .val (row (powR (ps.map fun p => y * p) ws many)), .val (rt (y ^ j)), .val (.int (j : Int)), s16, s17, s18, s19, s20, s21] st := by
    unfold fb0 sFrz
    rw [fz0]
    simp -implicitDefEqProofs only [ev_sIf, ev_tstE, ev_sSeq, ev_sSet, ev_callE, ev_aC, ev_vr, ev_vq, ev_kk, ev_aN, ev_asD, ev_op1, ev_op2, List.getElem?_cons_zero, List.getElem?_cons_succ, bind_ok, List.length_cons, List.length_nil, Nat.zero_add, Nat.reduceAdd, if_true, onR_ok, slot_val, List.set_cons_succ, List.set_cons_zero, RV.d_val, RV.d_own, x1, x2, t1, ne_rt, bl_ok, Bool.false_eq_true, if_false, ev_sNil]
  have w1 : fb1 [.val (.cel 0), s1, .val (row ps), .val (row ws), .val (.int (many : Int)), .val (row (powR ps ws many)), s6, s7, s8, s9, s10, s11, .val (rt y), .val (row (powR (ps.map fun p => y * p) ws many)), .val (rt (y ^ j)), .val (.int (j : Int)), s16, s17, s18, s19, s20, s21] st = .nx [.val (.cel 0), s1, .val (row ps), .val (row ws), .val (.int (many : Int)), .val (row (powR ps ws many)), s6, s7, s8, s9, s10, s11, .val (rt y), .val (row (powR (ps.map fun p => y * p) ws many)), .val (rt (y ^ (j + 1))), .val (.int (j : Int)), s16, s17, s18, s19, s20, s21] st := by
    unfold fb1 sFrz
    rw [fz1, Rat.pow_succ]
    simp -implicitDefEqProofs only [ev_sSeq, ev_sSet, ev_callE, ev_aC, ev_vr, ev_vq, ev_kk, ev_aN, ev_asD, ev_op1, ev_op2, List.getElem?_cons_zero, List.getElem?_cons_succ, bind_ok, List.length_cons, List.length_nil, Nat.zero_add, Nat.reduceAdd, if_true, onR_ok, slot_val, List.set_cons_succ, List.set_cons_zero, RV.d_val, RV.d_own, t2]
    rw [if_pos (by simp)]
  rw [fB_eq, ev_sSeq, w0, seq_nx, w1]
theorem f_loop : ∀ (c : Nat) {j : Nat} (hj : j + c ≤ many) {s15 : Slot}, ∃ t15, Dn.forM (.nm 15) fB ((List.range' j c).map fun (i : Nat) => D.int (i : Int)) [.val (.cel 0), s1, .val (row ps), .val (row ws), .val (.int (many : Int)), .val (row (powR ps ws many)), s6, s7, s8, s9, s10, s11, .val (rt y), .val (row (powR (ps.map fun p => y * p) ws many)), .val (rt (y ^ j)), s15, s16, s17, s18, s19, s20, s21] st = .nx [.val (.cel 0), s1, .val (row ps), .val (row ws), .val (.int (many : Int)), .val (row (powR ps ws many)), s6, s7, s8, s9, s10, s11, .val (rt y), .val (row (powR (ps.map fun p => y * p) ws many)), .val (rt (y ^ (j + c))), t15, s16, s17, s18, s19, s20, s21] st
  | 0, j, hj, s15 => ⟨s15, rfl⟩
  | c + 1, j, hj, s15 => by
    have e1 := fB_ok (st := st) (s1 := s1) (s6 := s6) (s7 := s7) (s8 := s8) (s9 := s9) (s10 := s10) (s11 := s11) (s16 := s16) (s17 := s17) (s18 := s18) (s19 := s19) (s20 := s20) (s21 := s21) hp hw hl l1 l5 m1 m12 hy (show j < many by omega)
    obtain ⟨t15, e2⟩ := f_loop c (j := j + 1) (by omega) (s15 := .val (.int (j : Int)))
    refine ⟨t15, ?_⟩
    rw [List.range'_succ, List.map_cons, Dn.forM]
    have ep : (Tg.nm 15).put (.int (j : Int)) [.val (.cel 0), s1, .val (row ps), .val (row ws), .val (.int (many : Int)), .val (row (powR ps ws many)), s6, s7, s8, s9, s10, s11, .val (rt y), .val (row (powR (ps.map fun p => y * p) ws many)), .val (rt (y ^ j)), s15, s16, s17, s18, s19, s20, s21] = some [.val (.cel 0), s1, .val (row ps), .val (row ws), .val (.int (many : Int)), .val (row (powR ps ws many)), s6, s7, s8, s9, s10, s11, .val (rt y), .val (row (powR (ps.map fun p => y * p) ws many)), .val (rt (y ^ j)), .val (.int (j : Int)), s16, s17, s18, s19, s20, s21] := rfl
    simp only [ep, e1, e2]
    rw [show j + 1 + c = j + (c + 1) by omega]
theorem c11_ok : ∃ t14 t15, c11 [.val (.cel 0), s1, .val (row ps), .val (row ws), .val (.int (many : Int)), .val (row (powR ps ws many)), s6, s7, s8, s9, s10, s11, .val (rt y), .val (row (powR (ps.map fun p => y * p) ws many)), .val (rt (y ^ 0)), s15, s16, s17, s18, s19, s20, s21] st = .nx [.val (.cel 0), s1, .val (row ps), .val (row ws), .val (.int (many : Int)), .val (row (powR ps ws many)), s6, s7, s8, s9, s10, s11, .val (rt y), .val (row (powR (ps.map fun p => y * p) ws many)), t14, t15, s16, s17, s18, s19, s20, s21] st := by
  have hq : (itR1 (vq 4)) [.val (.cel 0), s1, .val (row ps), .val (row ws), .val (.int (many : Int)), .val (row (powR ps ws many)), s6, s7, s8, s9, s10, s11, .val (rt y), .val (row (powR (ps.map fun p => y * p) ws many)), .val (rt (y ^ 0)), s15, s16, s17, s18, s19, s20, s21] st = .ok ((List.range' 0 many).map fun (i : Nat) => D.int (i : Int)) st := by
    simp -implicitDefEqProofs only [ev_itR1, ev_vq, List.getElem?_cons_succ, List.getElem?_cons_zero, bind_ok]
    rw [rng_ok many st (by omega), List.range_eq_range']
  obtain ⟨t15, e⟩ := f_loop (st := st) (s1 := s1) (s6 := s6) (s7 := s7) (s8 := s8) (s9 := s9) (s10 := s10) (s11 := s11) (s16 := s16) (s17 := s17) (s18 := s18) (s19 := s19) (s20 := s20) (s21 := s21) hp hw hl l1 l5 m1 m12 hy many (j := 0) (by omega) (s15 := s15)
  refine ⟨.val (rt (y ^ (0 + many))), t15, ?_⟩
  rw [c11_eq, ev_sFor, hq, onR_ok, e]
end
theorem c12_ok {few : Nat} (f1 : 1 ≤ few) (f5 : few ≤ 5) (h : PenI r n st) (hn : n ≤ 900000) : ∃ (cut : Nat) (st' : Store), c12 [.val (.cel 0), .val (.int (few : Int)), s2, s3, s4, s5, s6, s7, s8, s9, s10, s11, s12, s13, s14, s15, s16, s17, s18, s19, s20, s21] st = .nx [.val (.cel 0), .val (.int (few : Int)), s2, s3, s4, s5, s6, s7, s8, s9, s10, s11, s12, s13, s14, s15, .val (.int (cut : Int)), s17, s18, s19, s20, s21] st' ∧ 1 ≤ cut ∧ cut ≤ few ∧ PenI r (n + 1) st' := by
  obtain ⟨v, st1, e1, v0, v1, q1⟩ := draw (many := (few : Int)) h (by omega) (by omega) (by omega)
  rw [← draw_is] at e1
  refine ⟨(1 + v).toNat, st1, ?_, by omega, by omega, q1⟩
  rw [show (((1 + v).toNat : Nat) : Int) = 1 + v by omega]
  unfold c12
  simp -implicitDefEqProofs only [ev_sSeq, ev_sSet, ev_callE, ev_aC, ev_vr, ev_vq, ev_kk, ev_aN, ev_asD, ev_op1, ev_op2, List.getElem?_cons_zero, List.getElem?_cons_succ, bind_ok, List.length_cons, List.length_nil, Nat.zero_add, Nat.reduceAdd, if_true, onR_ok, slot_val, List.set_cons_succ, List.set_cons_zero, RV.d_val, RV.d_own, e1, addA_ii]
  rw [if_pos (by simp)]
theorem c1314_ok {ps ws : List Rat} {many few cut : Nat} (hp : ∀ x ∈ ps, Bd 3 x) (hw : ∀ x ∈ ws, Bd 3 x) (hl : ws.length = ps.length) (l1 : 1 ≤ ps.length) (l5 : ps.length ≤ 5) (m1 : 1 ≤ many) (m12 : many ≤ 12) (hf : few = ps.length) (k1 : 1 ≤ cut) (kf : cut ≤ few) :
    ((sSeq c13 c14) [.val (.cel 0), .val (.int (few : Int)), .val (row ps), .val (row ws), .val (.int (many : Int)), .val (row (powR ps ws many)), s6, s7, s8, s9, s10, s11, s12, s13, s14, s15, .val (.int (cut : Int)), s17, s18, s19, s20, s21] st).out = .ok (.val (.bl true)) st := by
  by_cases e : cut < few
  · have hd : decide ((cut : Int) < (few : Int)) = true := decide_eq_true (by omega)
    have a1 := sl_take ps cut (by omega)
    have a2 := sl_take ws cut (by omega)
    have a3 := sl_drop ps cut (by omega)
    have a4 := sl_drop ws cut (by omega)
    have p1 := power_sums_rt (st := st) (gv_row (ps.take cut)) (gv_row (ws.take cut)) (fun x hx => hp x (List.mem_of_mem_take hx)) (fun x hx => hw x (List.mem_of_mem_take hx)) (by decide) (by decide) (by simp [hl]) (by rw [List.length_take]; omega) (by rw [List.length_take]; omega) m1 m12
    have p2 := power_sums_rt (st := st) (gv_row (ps.drop cut)) (gv_row (ws.drop cut)) (fun x hx => hp x (List.mem_of_mem_drop hx)) (fun x hx => hw x (List.mem_of_mem_drop hx)) (by decide) (by decide) (by simp [hl]) (by rw [List.length_drop]; omega) (by rw [List.length_drop]; omega) m1 m12
    have b1 := powR_bd (many := many) (fun x hx => hp x (List.mem_of_mem_take hx)) (fun x hx => hw x (List.mem_of_mem_take hx)) (show (ws.take cut).length = (ps.take cut).length by simp [hl]) (by rw [List.length_take]; omega) (by rw [List.length_take]; omega) m1 m12
    have b2 := powR_bd (many := many) (fun x hx => hp x (List.mem_of_mem_drop hx)) (fun x hx => hw x (List.mem_of_mem_drop hx)) (show (ws.drop cut).length = (ps.drop cut).length by simp [hl]) (by rw [List.length_drop]; omega) (by rw [List.length_drop]; omega) m1 m12
    have ln : (powR (ps.take cut) (ws.take cut) many).length = many := by simp [powR]
    have c := comp_zip (st := st) (q := itZA (vq 17) (vq 18)) (ρ := [.val (.cel 0), .val (.int (few : Int)), .val (row ps), .val (row ws), .val (.int (many : Int)), .val (row (powR ps ws many)), s6, s7, s8, s9, s10, s11, s12, s13, s14, s15, .val (.int (cut : Int)), .val (row (powR (ps.take cut) (ws.take cut) many)), .val (row (powR (ps.drop cut) (ws.drop cut) many)), s19, s20, s21]) (xs := powR (ps.take cut) (ws.take cut) many) (ys := powR (ps.drop cut) (ws.drop cut) many) (f := f__law_plus) (op := (· + ·)) (i := 19) (j := 20) (fun x hx y hy => plus_rt (b1 x hx) (b2 y hy) (by decide)) rfl (by omega) fun x y => ⟨_, rfl, rfl, rfl⟩
    rw [pow_cut hl (show cut ≤ ps.length by omega)] at c
    have e16 : ∀ ρ : Ev, ρ[16]? = some (.val (.int (cut : Int))) → (pS (vq 16)) ρ st = .ok (some (cut : Int)) st := fun ρ h => ev_pS _ (by rw [ev_vq, h])
    unfold c13
    simp -implicitDefEqProofs only [ev_sSeq, ev_sIf, ev_tstE, ev_op2, ev_vq, List.getElem?_cons_zero, List.getElem?_cons_succ, bind_ok, lt_ii, bl_ok, hd, if_true, onR_ok]
    simp -implicitDefEqProofs only [ev_sPar, ev_asD, ev_callE, ev_aC, ev_aN, ev_slE, ev_pN, e16, ev_vq, ev_vr, List.getElem?_cons_zero, List.getElem?_cons_succ, bind_ok, a1, a2, a3, a4, RV.d_val, List.length_cons, List.length_nil, Nat.zero_add, Nat.reduceAdd, if_true, p1, p2, onR_ok, List.set_cons_succ, List.set_cons_zero]
    rw [if_pos (by simp), seq_nx]
    simp -implicitDefEqProofs only [ev_sRet, ev_op2, ev_op1, ev_asD, c, bind_ok, RV.d_own, tup_row (st := st) (show (powR ps ws many).length ≤ 1000 by simp [powR]; omega), RV.d_val, ev_vq, List.getElem?_cons_zero, List.getElem?_cons_succ, eq_row, onR_ok, seq_ret, out_ret]
  · have hd : decide ((cut : Int) < (few : Int)) = false := decide_eq_false (by omega)
    unfold c13
    simp -implicitDefEqProofs only [ev_sSeq, ev_sIf, ev_tstE, ev_op2, ev_vq, List.getElem?_cons_zero, List.getElem?_cons_succ, bind_ok, lt_ii, bl_ok, hd, Bool.false_eq_true, if_false, onR_ok, ev_sNil, seq_nx]
    rfl
end
end K78

set_option Elab.async false
set_option linter.all false
set_option maxRecDepth 100000
set_option maxHeartbeats 4000000
set_option exponentiation.threshold 20000
namespace K78
open PySem PySem.Spec PyProof.Rows L2 Dn Dn.Pa Dn.Rt
open Dn.Pen (penC PenI PenI.mono ev_compE lcM_nil lcM_cons lcM_all lcB_val all_true own_ok)
theorem case_ok {r : Store} {st : Store} {n : Int} (h : PenI r n st) (hn : n ≤ 600000) : ∃ st', f__law_case [.cel 0] st = .ok (.val (.bl true)) st' ∧ PenI r (n + 100) st' := by
  obtain ⟨few, st0, e0, f1, f5, q0⟩ := c0_ok (s1 := .un) (s2 := .un) (s3 := .un) (s4 := .un) (s5 := .un) (s6 := .un) (s7 := .un) (s8 := .un) (s9 := .un) (s10 := .un) (s11 := .un) (s12 := .un) (s13 := .un) (s14 := .un) (s15 := .un) (s16 := .un) (s17 := .un) (s18 := .un) (s19 := .un) (s20 := .un) (s21 := .un) h (by omega)
  obtain ⟨ps, ws, st1, e1, lp, lw, bp, bw, q1⟩ := c1_ok (s2 := .un) (s3 := .un) (s4 := .un) (s5 := .un) (s6 := .un) (s7 := .un) (s8 := .un) (s9 := .un) (s10 := .un) (s11 := .un) (s12 := .un) (s13 := .un) (s14 := .un) (s15 := .un) (s16 := .un) (s17 := .un) (s18 := .un) (s19 := .un) (s20 := .un) (s21 := .un) f5 q0 (by omega)
  have hl : ws.length = ps.length := by omega
  have l1 : 1 ≤ ps.length := by omega
  have l5 : ps.length ≤ 5 := by omega
  obtain ⟨many, st2, e2, m1, m12, q2⟩ := c2_ok (s1 := .val (.int (few : Int))) (s2 := .val (row ps)) (s3 := .val (row ws)) (s4 := .un) (s5 := .un) (s6 := .un) (s7 := .un) (s8 := .un) (s9 := .un) (s10 := .un) (s11 := .un) (s12 := .un) (s13 := .un) (s14 := .un) (s15 := .un) (s16 := .un) (s17 := .un) (s18 := .un) (s19 := .un) (s20 := .un) (s21 := .un) q1 (by omega)
  obtain ⟨st3, e3, q3⟩ := c3_ok (s1 := .val (.int (few : Int))) (s5 := .un) (s6 := .un) (s7 := .un) (s8 := .un) (s9 := .un) (s10 := .un) (s11 := .un) (s12 := .un) (s13 := .un) (s14 := .un) (s15 := .un) (s16 := .un) (s17 := .un) (s18 := .un) (s19 := .un) (s20 := .un) (s21 := .un) bp bw hl l1 l5 m1 m12 q2 (by omega)
  have e4 := c4_ok (st := st3) (s1 := .val (.int (few : Int))) (s6 := .un) (s7 := .un) (s8 := .un) (s9 := .un) (s10 := .un) (s11 := .un) (s12 := .un) (s13 := .un) (s14 := .un) (s15 := .un) (s16 := .un) (s17 := .un) (s18 := .un) (s19 := .un) (s20 := .un) (s21 := .un) bp bw hl l1 l5 m1 m12
  obtain ⟨s, st5, e5, hs1, q5⟩ := c5_ok (s1 := .val (.int (few : Int))) (s2 := .val (row ps)) (s3 := .val (row ws)) (s4 := .val (.int (many : Int))) (s5 := .val (row (powR ps ws many))) (s6 := .un) (s7 := .un) (s8 := .un) (s9 := .un) (s10 := .un) (s11 := .un) (s12 := .un) (s13 := .un) (s14 := .un) (s15 := .un) (s16 := .un) (s17 := .un) (s18 := .un) (s19 := .un) (s20 := .un) (s21 := .un) q3 (by omega)
  have e6 := c6_ok (st := st5) (s1 := .val (.int (few : Int))) (s2 := .val (row ps)) (s3 := .val (row ws)) (s5 := .val (row (powR ps ws many))) (s7 := .un) (s8 := .un) (s9 := .un) (s10 := .un) (s11 := .un) (s12 := .un) (s13 := .un) (s14 := .un) (s15 := .un) (s16 := .un) (s17 := .un) (s18 := .un) (s19 := .un) (s20 := .un) (s21 := .un) m12 hs1 (fun _ z => by cases z)
  obtain ⟨t7, t8, t9, t10, t11, st7, e7, q7⟩ := c7_ok (s1 := .val (.int (few : Int))) (s8 := .un) (s9 := .un) (s10 := .un) (s11 := .un) (s12 := .un) (s13 := .un) (s14 := .un) (s15 := .un) (s16 := .un) (s17 := .un) (s18 := .un) (s19 := .un) (s20 := .un) (s21 := .un) bp bw hl l1 l5 m1 m12 hs1 q5 (by omega)
  obtain ⟨y, st8, e8, hy, q8⟩ := c8_ok (s1 := .val (.int (few : Int))) (s2 := .val (row ps)) (s3 := .val (row ws)) (s4 := .val (.int (many : Int))) (s5 := .val (row (powR ps ws many))) (s6 := .val (.int (s : Int))) (s7 := t7) (s8 := t8) (s9 := t9) (s10 := t10) (s11 := t11) (s12 := .un) (s13 := .un) (s14 := .un) (s15 := .un) (s16 := .un) (s17 := .un) (s18 := .un) (s19 := .un) (s20 := .un) (s21 := .un) q7 (by omega)
  have e9 := c9_ok (st := st8) (s1 := .val (.int (few : Int))) (s6 := .val (.int (s : Int))) (s7 := t7) (s8 := t8) (s9 := t9) (s10 := t10) (s11 := t11) (s13 := .un) (s14 := .un) (s15 := .un) (s16 := .un) (s17 := .un) (s18 := .un) (s19 := .un) (s20 := .un) (s21 := .un) bp bw hl l1 l5 m1 m12 hy
  have e10 := c10_ok (st := st8) (s1 := .val (.int (few : Int))) (s6 := .val (.int (s : Int))) (s7 := t7) (s8 := t8) (s9 := t9) (s10 := t10) (s11 := t11) (s14 := .un) (s15 := .un) (s16 := .un) (s17 := .un) (s18 := .un) (s19 := .un) (s20 := .un) (s21 := .un) bp bw hl l1 l5 m1 m12 hy
  obtain ⟨t14, t15, e11⟩ := c11_ok (st := st8) (s1 := .val (.int (few : Int))) (s6 := .val (.int (s : Int))) (s7 := t7) (s8 := t8) (s9 := t9) (s10 := t10) (s11 := t11) (s15 := .un) (s16 := .un) (s17 := .un) (s18 := .un) (s19 := .un) (s20 := .un) (s21 := .un) bp bw hl l1 l5 m1 m12 hy
  obtain ⟨cut, st12, e12, k1, kf, q12⟩ := c12_ok (s2 := .val (row ps)) (s3 := .val (row ws)) (s4 := .val (.int (many : Int))) (s5 := .val (row (powR ps ws many))) (s6 := .val (.int (s : Int))) (s7 := t7) (s8 := t8) (s9 := t9) (s10 := t10) (s11 := t11) (s12 := .val (rt y)) (s13 := .val (row (powR (ps.map fun p => y * p) ws many))) (s14 := t14) (s15 := t15) (s16 := .un) (s17 := .un) (s18 := .un) (s19 := .un) (s20 := .un) (s21 := .un) f1 f5 q8 (by omega)
  have e13 := c1314_ok (st := st12) (s6 := .val (.int (s : Int))) (s7 := t7) (s8 := t8) (s9 := t9) (s10 := t10) (s11 := t11) (s12 := .val (rt y)) (s13 := .val (row (powR (ps.map fun p => y * p) ws many))) (s14 := t14) (s15 := t15) (s17 := .un) (s18 := .un) (s19 := .un) (s20 := .un) (s21 := .un) bp bw hl l1 l5 m1 m12 lp.symm k1 kf
  refine ⟨st12, ?_, q12.mono (by omega)⟩
  have hs : startE [("pen" : Str), ("few" : Str), ("points" : Str), ("weights" : Str), ("many" : Str), ("row" : Str), ("start" : Str), ("sizes" : Str), ("size" : Str), ("table" : Str), ("led" : Str), ("powers" : Str), ("by" : Str), ("far" : Str), ("here" : Str), ("k" : Str), ("cut" : Str), ("one" : Str), ("two" : Str), ("a" : Str), ("b" : Str), ("item" : Str)] [.cel 0] = [.val (.cel 0), .un, .un, .un, .un, .un, .un, .un, .un, .un, .un, .un, .un, .un, .un, .un, .un, .un, .un, .un, .un, .un] := rfl
  unfold f__law_case
  rw [ev_runF, hs, case_eq, ev_sSeq, e0, seq_nx, ev_sSeq, e1, seq_nx, ev_sSeq, e2, seq_nx, ev_sSeq, e3, seq_nx, ev_sSeq, e4, seq_nx, ev_sSeq, e5, seq_nx, ev_sSeq, e6, seq_nx, ev_sSeq, e7, seq_nx, ev_sSeq, e8, seq_nx, ev_sSeq, e9, seq_nx, ev_sSeq, e10, seq_nx, ev_sSeq, e11, seq_nx, ev_sSeq, e12, seq_nx, e13]
/-! ### the law's end -/
def bads : List D := [.non, .int 5, .tup [], .tup [.str "1"], .tup [.bl true], .tup [.tup [.int 1, .int 0]], .tup [.int 1, .int 1, .int 1, .int 1, .int 1, .int 1, .int 1], .str "1"]
def wrongs : List D := [.non, .int 5, .tup [], .tup [.int 1, .int 2], .tup [.str "1"], .tup [.bl true]]
def fars : List D := [.int 0, .int 13, .non, .bl true, .str "2"]
def lows : List D := [.int 0, .int 7, .non, .bl true]
def starts : List D := [.int 2, .int (-1), .non, .bl true]
def longs : List D := [.non, .int 5, .tup [], .tup [.str "1"], .tup [.bl true], .tup [.int 1, .int 1, .int 1, .int 1, .int 1, .int 1, .int 1, .int 1, .int 1, .int 1, .int 1, .int 1, .int 1]]
abbrev amb (a b c d e f : D) : List (Str × D) := [("bad", a), ("wrong", b), ("far", c), ("long", f), ("low", d), ("start", e)]
section
variable {a b c d e f : D} {st : Store}
def Due (m : List (Str × D)) (i : Nat) (d : D) (st : Store) : Prop := f__law_fault m [.clo i] st = .ok (.val d) st ∧ ∃ s, reprM d st = .ok (.val (.str s)) st
theorem t0 (h : a ∈ bads) : Due (amb a b c d e f) 0 (.tup [.str "row", a]) st := by
  simp only [bads, List.mem_cons, List.not_mem_nil, or_false] at h
  rcases h with rfl | rfl | rfl | rfl | rfl | rfl | rfl | rfl <;> exact ⟨by kernel_rfl, _, repr_ok rfl (by kernel_rfl) (Nat.le_of_ble_eq_true (by kernel_rfl)) (Nat.le_of_ble_eq_true (by kernel_rfl))⟩
theorem t1 (h : b ∈ wrongs) : Due (amb a b c d e f) 1 (.tup [.str "row", b]) st := by
  simp only [wrongs, List.mem_cons, List.not_mem_nil, or_false] at h
  rcases h with rfl | rfl | rfl | rfl | rfl | rfl <;> exact ⟨by kernel_rfl, _, repr_ok rfl (by kernel_rfl) (Nat.le_of_ble_eq_true (by kernel_rfl)) (Nat.le_of_ble_eq_true (by kernel_rfl))⟩
theorem t2 (h : c ∈ fars) : Due (amb a b c d e f) 2 (.tup [.str "number", .str "many", c]) st := by
  simp only [fars, List.mem_cons, List.not_mem_nil, or_false] at h
  rcases h with rfl | rfl | rfl | rfl | rfl <;> exact ⟨by kernel_rfl, _, repr_ok rfl (by kernel_rfl) (Nat.le_of_ble_eq_true (by kernel_rfl)) (Nat.le_of_ble_eq_true (by kernel_rfl))⟩
theorem t3 (h : f ∈ longs) : Due (amb a b c d e f) 3 (.tup [.str "row", f]) st := by
  simp only [longs, List.mem_cons, List.not_mem_nil, or_false] at h
  rcases h with rfl | rfl | rfl | rfl | rfl | rfl <;> exact ⟨by kernel_rfl, _, repr_ok rfl (by kernel_rfl) (Nat.le_of_ble_eq_true (by kernel_rfl)) (Nat.le_of_ble_eq_true (by kernel_rfl))⟩
theorem t4 (h : d ∈ lows) : Due (amb a b c d e f) 4 (.tup [.str "number", .str "size", d]) st := by
  simp only [lows, List.mem_cons, List.not_mem_nil, or_false] at h
  rcases h with rfl | rfl | rfl | rfl <;> exact ⟨by kernel_rfl, _, repr_ok rfl (by kernel_rfl) (Nat.le_of_ble_eq_true (by kernel_rfl)) (Nat.le_of_ble_eq_true (by kernel_rfl))⟩
theorem t5 (h : e ∈ starts) : Due (amb a b c d e f) 5 (.tup [.str "number", .str "start", e]) st := by
  simp only [starts, List.mem_cons, List.not_mem_nil, or_false] at h
  rcases h with rfl | rfl | rfl | rfl <;> exact ⟨by kernel_rfl, _, repr_ok rfl (by kernel_rfl) (Nat.le_of_ble_eq_true (by kernel_rfl)) (Nat.le_of_ble_eq_true (by kernel_rfl))⟩
theorem t6 : Due (amb a b c d e f) 6 (.tup [.str "unlike", .str "size"]) st := ⟨by kernel_rfl, _, repr_ok rfl (by kernel_rfl) (Nat.le_of_ble_eq_true (by kernel_rfl)) (Nat.le_of_ble_eq_true (by kernel_rfl))⟩
end
def dueT (m : List (Str × D)) : Ev → M D := asD (op2 eqM (asD (op1 reprM (asD (callE 1 (f__law_fault m) (aC (vr 1) (aN)))))) (asD (op1 reprM (vq 2))))
theorem dueT_ok {m : List (Str × D)} {s0 : Slot} {i : Nat} {d : D} {st : Store} (h : Due m i d st) : dueT m [s0, .val (.clo i), .val d] st = .ok (.bl true) st := by
  obtain ⟨e, s, es⟩ := h
  unfold dueT
  simp -implicitDefEqProofs only [ev_asD, ev_op2, ev_op1, ev_callE, ev_aC, ev_vr, ev_vq, ev_aN, List.getElem?_cons_zero, List.getElem?_cons_succ, bind_ok, List.length_cons, List.length_nil, Nat.zero_add, Nat.reduceAdd, if_true, slot_val, RV.d_val, e, es, eq_ss, beq_self_eq_true]
theorem due_eq (m : List (Str × D)) : S__law_are_due m = sRet (op1 allM (asD (compE (itS (vq 0)) (.tp [1, 2]) (fun _ => pure true) (dueT m) [1, 2]))) := rfl
theorem due_ok {m : List (Str × D)} {ts : List (Nat × D)} {st : Store} (hl : ts.length ≤ 100) (h : ∀ p ∈ ts, Due m p.1 p.2 st) : f__law_are_due m [.lst (ts.map fun p => .tup [.clo p.1, p.2])] st = .ok (.val (.bl true)) st := by
  have hs : startE [("tries" : Str), ("work" : Str), ("due" : Str)] [.lst (ts.map fun p => .tup [.clo p.1, p.2])] = [.val (.lst (ts.map fun p => .tup [.clo p.1, p.2])), .un, .un] := rfl
  have hq : (itS (vq 0)) [.val (.lst (ts.map fun p => .tup [.clo p.1, p.2])), .un, .un] st = .ok (ts.map fun p => D.tup [.clo p.1, p.2]) st := rfl
  have hk : lineOk (ts.map fun p => D.tup [.clo p.1, p.2]).length = true := by
    unfold lineOk; rw [List.length_map]; exact decide_eq_true (by omega)
  have hw : wipeE [Slot.val (.lst (ts.map fun p => .tup [.clo p.1, p.2])), .un, .un] [1, 2] = [.val (.lst (ts.map fun p => .tup [.clo p.1, p.2])), .un, .un] := rfl
  have ht : ∀ d ∈ ts.map (fun p => D.tup [.clo p.1, p.2]), lcB (.tp [1, 2]) (fun _ => pure true) (dueT m) [.val (.lst (ts.map fun p => .tup [.clo p.1, p.2])), .un, .un] d st = .ok (some (.bl true)) st := by
    intro d hd
    obtain ⟨p, hp, rfl⟩ := List.mem_map.mp hd
    exact lcB_val rfl (dueT_ok (h p hp))
  unfold f__law_are_due
  rw [ev_runF, hs, due_eq, ev_sRet, ev_op1, ev_asD, ev_compE, hq, bind_ok, if_pos hk, hw, lcM_all ht, bind_ok, bind_ok, RV.d_own, bind_ok, all_true, onR_ok, out_ret]
/-! ### the law -/

def w0 : SS := sSet 1 (callE 1 f__law_pen (aC (vr 0) (aN)))
def w1 : SS := sFrz [1] (sIf (notT (truE (asD (op1 allM (asD (compE (itR1 (kk (.int 4))) (.nm 9) (fun _ => pure true) (asD (callE 1 f__law_case (aC (vr 1) (aN)))) [9])))))) (sRet (asR (kk (.bl false)))) (sNil))
def w2 : SS := sFrz [1] (sTg (.tp [2, 3]) (tupE (aC (asD (callE 2 f__law_pick (aC (vr 1) (aC (asD (lstE (aC (kk .non) (aC (kk (.int 5)) (aC (tupE (aN)) (aC (tupE (aC (kk (.str ("1" : Str))) (aN))) (aC (tupE (aC (kk (.bl true)) (aN))) (aC (tupE (aC (tupE (aC (kk (.int 1)) (aC (kk (.int 0)) (aN)))) (aN))) (aC (asD (op2 mulM (tupE (aC (kk (.int 1)) (aN))) (kk (.int 7)))) (aC (kk (.str ("1" : Str))) (aN))))))))))) (aN))))) (aC (asD (callE 2 f__law_pick (aC (vr 1) (aC (asD (lstE (aC (kk .non) (aC (kk (.int 5)) (aC (tupE (aN)) (aC (tupE (aC (kk (.int 1)) (aC (kk (.int 2)) (aN)))) (aC (tupE (aC (kk (.str ("1" : Str))) (aN))) (aC (tupE (aC (kk (.bl true)) (aN))) (aN))))))))) (aN))))) (aN)))))
def w3 : SS := sFrz [1] (sTg (.tp [4, 5, 6]) (tupE (aC (asD (callE 2 f__law_pick (aC (vr 1) (aC (asD (lstE (aC (kk (.int 0)) (aC (kk (.int 13)) (aC (kk .non) (aC (kk (.bl true)) (aC (kk (.str ("2" : Str))) (aN)))))))) (aN))))) (aC (asD (callE 2 f__law_pick (aC (vr 1) (aC (asD (lstE (aC (kk (.int 0)) (aC (kk (.int 7)) (aC (kk .non) (aC (kk (.bl true)) (aN))))))) (aN))))) (aC (asD (callE 2 f__law_pick (aC (vr 1) (aC (asD (lstE (aC (kk (.int 2)) (aC (asD (op1 negM (kk (.int 1)))) (aC (kk .non) (aC (kk (.bl true)) (aN))))))) (aN))))) (aN))))))
def w4 : SS := sFrz [1] (sSet 7 (callE 2 f__law_pick (aC (vr 1) (aC (asD (lstE (aC (kk .non) (aC (kk (.int 5)) (aC (tupE (aN)) (aC (tupE (aC (kk (.str ("1" : Str))) (aN))) (aC (tupE (aC (kk (.bl true)) (aN))) (aC (asD (op2 mulM (tupE (aC (kk (.int 1)) (aN))) (kk (.int 13)))) (aN))))))))) (aN)))))
def w5 : SS := sSet 8 (lstE (aC (tupE (aC (kk (.clo 0)) (aC (tupE (aC (kk (.str ("row" : Str))) (aC (vr 2) (aN)))) (aN)))) (aN)))
def w6 : SS := sApp 8 (tupE (aC (kk (.clo 1)) (aC (tupE (aC (kk (.str ("row" : Str))) (aC (vr 3) (aN)))) (aN))))
def w7 : SS := sApp 8 (tupE (aC (kk (.clo 2)) (aC (tupE (aC (kk (.str ("number" : Str))) (aC (kk (.str ("many" : Str))) (aC (vr 4) (aN))))) (aN))))
def w8 : SS := sFrz [7] (sApp 8 (tupE (aC (kk (.clo 3)) (aC (tupE (aC (kk (.str ("row" : Str))) (aC (vr 7) (aN)))) (aN)))))
def w9 : SS := sApp 8 (tupE (aC (kk (.clo 4)) (aC (tupE (aC (kk (.str ("number" : Str))) (aC (kk (.str ("size" : Str))) (aC (vr 5) (aN))))) (aN))))
def w10 : SS := sApp 8 (tupE (aC (kk (.clo 5)) (aC (tupE (aC (kk (.str ("number" : Str))) (aC (kk (.str ("start" : Str))) (aC (vr 6) (aN))))) (aN))))
def w11 : SS := sApp 8 (tupE (aC (kk (.clo 6)) (aC (tupE (aC (kk (.str ("unlike" : Str))) (aC (kk (.str ("size" : Str))) (aN)))) (aN))))
def w12 : SS := sFrz [8] (sRet (callA capL 1 f__law_are_due (aC (vr 8) (aN))))
theorem law_eq : S_law = sSeq w0 ( sSeq w1 ( sSeq w2 ( sSeq w3 ( sSeq w4 ( sSeq w5 ( sSeq w6 ( sSeq w7 ( sSeq w8 ( sSeq w9 ( sSeq w10 ( sSeq w11 (w12)))))))))))) := rfl
theorem pk {ρ : Ev} {E : Ev → M D} {l : List D} {r : Store} {n : Int} {st : Store} (h1 : ρ[1]? = some (.val (.cel 0))) (hE : ∀ st, E ρ st = .ok (.lst l) st) (h : PenI r n st) (hn : n ≤ 1000000) (hl : 0 < l.length) (hl2 : l.length < 2 ^ 64) : ∃ x st', callE 2 f__law_pick (aC (vr 1) (aC E (aN))) ρ st = .ok (.val x) st' ∧ x ∈ l ∧ PenI r (n + 1) st' := by
  obtain ⟨i, x, st', e, hx, p⟩ := pick h hn hl hl2
  rw [← pick_is] at e
  refine ⟨x, st', ?_, List.mem_of_getElem? hx, p⟩
  simp -implicitDefEqProofs only [ev_callE, ev_aC, ev_vr, ev_aN, h1, hE, bind_ok, List.length_cons, List.length_nil, Nat.zero_add, Nat.reduceAdd, if_true, e]
theorem w0_ok {s : D} {st st' : Store} (h : f__law_pen [s] st = .ok (.val (.cel 0)) st') : w0 [.val s, .un, .un, .un, .un, .un, .un, .un, .un, .un] st = .nx [.val s, .val (.cel 0), .un, .un, .un, .un, .un, .un, .un, .un] st' := by
  unfold w0
  simp -implicitDefEqProofs only [ev_sSet, ev_callE, ev_aC, ev_vr, ev_aN, List.getElem?_cons_zero, bind_ok, List.length_cons, List.length_nil, Nat.zero_add, if_true, h, onR_ok]
  rw [if_pos (by decide)]
  rfl
def caseT : Ev → M D := asD (callE 1 f__law_case (aC (vr 1) (aN)))
theorem caseT_ok {s : D} {x : Slot} {r st : Store} {n : Int} (h : PenI r n st) (hn : n ≤ 600000) : ∃ st', caseT [.val s, .val (.cel 0), .un, .un, .un, .un, .un, .un, .un, x] st = .ok (.bl true) st' ∧ PenI r (n + 100) st' := by
  obtain ⟨st', e, p⟩ := case_ok h hn
  refine ⟨st', ?_, p⟩
  unfold caseT
  simp -implicitDefEqProofs only [ev_asD, ev_callE, ev_aC, ev_vr, ev_aN, List.getElem?_cons_zero, List.getElem?_cons_succ, bind_ok, List.length_cons, List.length_nil, Nat.zero_add, if_true, e, RV.d_val]
theorem w1_ok {s : D} {r st : Store} (h : PenI r 0 st) : ∃ st', w1 [.val s, .val (.cel 0), .un, .un, .un, .un, .un, .un, .un, .un] st = .nx [.val s, .val (.cel 0), .un, .un, .un, .un, .un, .un, .un, .un] st' ∧ PenI r 400 st' := by
  obtain ⟨st1, e1, p1⟩ := caseT_ok (s := s) (x := .val (.int 0)) h (by omega)
  obtain ⟨st2, e2, p2⟩ := caseT_ok (s := s) (x := .val (.int 1)) p1 (by omega)
  obtain ⟨st3, e3, p3⟩ := caseT_ok (s := s) (x := .val (.int 2)) p2 (by omega)
  obtain ⟨st4, e4, p4⟩ := caseT_ok (s := s) (x := .val (.int 3)) p3 (by omega)
  refine ⟨st4, ?_, p4.mono (by omega)⟩
  have hq : (itR1 (kk (.int 4))) [.val s, .val (.cel 0), .un, .un, .un, .un, .un, .un, .un, .un] st = .ok [.int 0, .int 1, .int 2, .int 3] st := by
    rw [ev_itR1, ev_kk, bind_ok]
    exact rng1_i st (by decide)
  have hw : wipeE [.val s, .val (.cel 0), .un, .un, .un, .un, .un, .un, .un, .un] [9] = [.val s, .val (.cel 0), .un, .un, .un, .un, .un, .un, .un, .un] := rfl
  have e : (compE (itR1 (kk (.int 4))) (.nm 9) (fun _ => pure true) caseT [9]) [.val s, .val (.cel 0), .un, .un, .un, .un, .un, .un, .un, .un] st = .ok (.own [.bl true, .bl true, .bl true, .bl true]) st4 := by
    rw [ev_compE, hq, bind_ok, if_pos (by decide), hw, lcM_cons, lcB_val rfl e1, bind_ok, lcM_cons, lcB_val rfl e2, bind_ok, lcM_cons, lcB_val rfl e3, bind_ok, lcM_cons, lcB_val rfl e4, bind_ok, lcM_nil]
    rfl
  have fz : frzL [1] [.val s, .val (.cel 0), .un, .un, .un, .un, .un, .un, .un, .un] = [.val s, .val (.cel 0), .un, .un, .un, .un, .un, .un, .un, .un] := rfl
  show (sFrz [1] (sIf (notT (truE (asD (op1 allM (asD (compE (itR1 (kk (.int 4))) (.nm 9) (fun _ => pure true) caseT [9])))))) (sRet (asR (kk (.bl false)))) (sNil))) _ _ = _
  unfold sFrz
  rw [fz, ev_sIf, ev_notT, ev_truE, ev_asD, ev_op1, ev_asD, e, bind_ok, RV.d_own, bind_ok]
  rfl
theorem bads_ok (ρ : Ev) (st : Store) : (asD (lstE (aC (kk .non) (aC (kk (.int 5)) (aC (tupE (aN)) (aC (tupE (aC (kk (.str ("1" : Str))) (aN))) (aC (tupE (aC (kk (.bl true)) (aN))) (aC (tupE (aC (tupE (aC (kk (.int 1)) (aC (kk (.int 0)) (aN)))) (aN))) (aC (asD (op2 mulM (tupE (aC (kk (.int 1)) (aN))) (kk (.int 7)))) (aC (kk (.str ("1" : Str))) (aN))))))))))) ρ st = .ok (.lst bads) st := by kernel_rfl
theorem wrongs_ok (ρ : Ev) (st : Store) : (asD (lstE (aC (kk .non) (aC (kk (.int 5)) (aC (tupE (aN)) (aC (tupE (aC (kk (.int 1)) (aC (kk (.int 2)) (aN)))) (aC (tupE (aC (kk (.str ("1" : Str))) (aN))) (aC (tupE (aC (kk (.bl true)) (aN))) (aN))))))))) ρ st = .ok (.lst wrongs) st := by kernel_rfl
theorem fars_ok (ρ : Ev) (st : Store) : (asD (lstE (aC (kk (.int 0)) (aC (kk (.int 13)) (aC (kk .non) (aC (kk (.bl true)) (aC (kk (.str ("2" : Str))) (aN)))))))) ρ st = .ok (.lst fars) st := by kernel_rfl
theorem lows_ok (ρ : Ev) (st : Store) : (asD (lstE (aC (kk (.int 0)) (aC (kk (.int 7)) (aC (kk .non) (aC (kk (.bl true)) (aN))))))) ρ st = .ok (.lst lows) st := by kernel_rfl
theorem starts_ok (ρ : Ev) (st : Store) : (asD (lstE (aC (kk (.int 2)) (aC (asD (op1 negM (kk (.int 1)))) (aC (kk .non) (aC (kk (.bl true)) (aN))))))) ρ st = .ok (.lst starts) st := by kernel_rfl
theorem longs_ok (ρ : Ev) (st : Store) : (asD (lstE (aC (kk .non) (aC (kk (.int 5)) (aC (tupE (aN)) (aC (tupE (aC (kk (.str ("1" : Str))) (aN))) (aC (tupE (aC (kk (.bl true)) (aN))) (aC (asD (op2 mulM (tupE (aC (kk (.int 1)) (aN))) (kk (.int 13)))) (aN))))))))) ρ st = .ok (.lst longs) st := by kernel_rfl
theorem w2_ok {s : D} {r st : Store} {n : Int} (h : PenI r n st) (hn : n ≤ 990000) : ∃ a b st', w2 [.val s, .val (.cel 0), .un, .un, .un, .un, .un, .un, .un, .un] st = .nx [.val s, .val (.cel 0), .val a, .val b, .un, .un, .un, .un, .un, .un] st' ∧ a ∈ bads ∧ b ∈ wrongs ∧ PenI r (n + 2) st' := by
  obtain ⟨a, st0, e0, m0, p0⟩ := pk (ρ := [.val s, .val (.cel 0), .un, .un, .un, .un, .un, .un, .un, .un]) rfl (bads_ok _) h (by omega) (by decide) (by decide)
  obtain ⟨b, st1, e1, m1, p1⟩ := pk (ρ := [.val s, .val (.cel 0), .un, .un, .un, .un, .un, .un, .un, .un]) rfl (wrongs_ok _) p0 (by omega) (by decide) (by decide)
  refine ⟨a, b, st1, ?_, m0, m1, p1.mono (by omega)⟩
  have fz : frzL [1] [.val s, .val (.cel 0), .un, .un, .un, .un, .un, .un, .un, .un] = [.val s, .val (.cel 0), .un, .un, .un, .un, .un, .un, .un, .un] := rfl
  unfold w2 sFrz
  rw [fz]
  have tp : (Tg.tp [2, 3]).put (.tup [a, b]) [.val s, .val (.cel 0), .un, .un, .un, .un, .un, .un, .un, .un] = some [.val s, .val (.cel 0), .val a, .val b, .un, .un, .un, .un, .un, .un] := rfl
  have tk : ∀ st, tupM [a, b] st = .ok (.tup [a, b]) st := fun st => tup_ok st (by simp only [List.length_cons, List.length_nil]; omega)
  rw [ev_sTg, ev_tupE]
  simp -implicitDefEqProofs only [ev_aC, ev_aN, ev_asD, e0, e1, bind_ok, RV.d_val, tk, onR_ok, tp]
theorem w3_ok {s a b : D} {r st : Store} {n : Int} (h : PenI r n st) (hn : n ≤ 990000) : ∃ c d e st', w3 [.val s, .val (.cel 0), .val a, .val b, .un, .un, .un, .un, .un, .un] st = .nx [.val s, .val (.cel 0), .val a, .val b, .val c, .val d, .val e, .un, .un, .un] st' ∧ c ∈ fars ∧ d ∈ lows ∧ e ∈ starts ∧ PenI r (n + 3) st' := by
  obtain ⟨c, st0, e0, m0, p0⟩ := pk (ρ := [.val s, .val (.cel 0), .val a, .val b, .un, .un, .un, .un, .un, .un]) rfl (fars_ok _) h (by omega) (by decide) (by decide)
  obtain ⟨d, st1, e1, m1, p1⟩ := pk (ρ := [.val s, .val (.cel 0), .val a, .val b, .un, .un, .un, .un, .un, .un]) rfl (lows_ok _) p0 (by omega) (by decide) (by decide)
  obtain ⟨e, st2, e2, m2, p2⟩ := pk (ρ := [.val s, .val (.cel 0), .val a, .val b, .un, .un, .un, .un, .un, .un]) rfl (starts_ok _) p1 (by omega) (by decide) (by decide)
  refine ⟨c, d, e, st2, ?_, m0, m1, m2, p2.mono (by omega)⟩
  have fz : frzL [1] [.val s, .val (.cel 0), .val a, .val b, .un, .un, .un, .un, .un, .un] = [.val s, .val (.cel 0), .val a, .val b, .un, .un, .un, .un, .un, .un] := rfl
  unfold w3 sFrz
  rw [fz]
  have tp : (Tg.tp [4, 5, 6]).put (.tup [c, d, e]) [.val s, .val (.cel 0), .val a, .val b, .un, .un, .un, .un, .un, .un] = some [.val s, .val (.cel 0), .val a, .val b, .val c, .val d, .val e, .un, .un, .un] := rfl
  have tk : ∀ st, tupM [c, d, e] st = .ok (.tup [c, d, e]) st := fun st => tup_ok st (by simp only [List.length_cons, List.length_nil]; omega)
  rw [ev_sTg, ev_tupE]
  simp -implicitDefEqProofs only [ev_aC, ev_aN, ev_asD, e0, e1, e2, bind_ok, RV.d_val, tk, onR_ok, tp]
theorem w4_ok {s a b c d e : D} {r st : Store} {n : Int} (h : PenI r n st) (hn : n ≤ 990000) : ∃ f st', w4 [.val s, .val (.cel 0), .val a, .val b, .val c, .val d, .val e, .un, .un, .un] st = .nx [.val s, .val (.cel 0), .val a, .val b, .val c, .val d, .val e, .val f, .un, .un] st' ∧ f ∈ longs ∧ PenI r (n + 1) st' := by
  obtain ⟨f, st0, e0, m0, p0⟩ := pk (ρ := [.val s, .val (.cel 0), .val a, .val b, .val c, .val d, .val e, .un, .un, .un]) rfl (longs_ok _) h (by omega) (by decide) (by decide)
  refine ⟨f, st0, ?_, m0, p0.mono (by omega)⟩
  have fz : frzL [1] [.val s, .val (.cel 0), .val a, .val b, .val c, .val d, .val e, .un, .un, .un] = [.val s, .val (.cel 0), .val a, .val b, .val c, .val d, .val e, .un, .un, .un] := rfl
  unfold w4 sFrz
  rw [fz]
  rw [ev_sSet, e0, onR_ok]
  rfl
def trs (a b c d e f : D) : List (Nat × D) := [(0, .tup [.str "row", a]), (1, .tup [.str "row", b]), (2, .tup [.str "number", .str "many", c]), (3, .tup [.str "row", f]), (4, .tup [.str "number", .str "size", d]), (5, .tup [.str "number", .str "start", e]), (6, .tup [.str "unlike", .str "size"])]
def pre : List SS := [w5, w6, w7, w8, w9, w10, w11]
def runL : List SS → Ev → Store → RS := fun l ρ st => l.foldr (fun s k ρ st => (s ρ st).seq k) (fun ρ st => .nx ρ st) ρ st
theorem runL_eq (e : SS) : ∀ (l : List SS) {ρ ρ1 : Ev} {st st1 : Store}, runL l ρ st = .nx ρ1 st1 → (l.foldr (fun x r => sSeq x r) e) ρ st = e ρ1 st1
  | [], ρ, ρ1, st, st1, h => by cases h; rfl
  | s :: l, ρ, ρ1, st, st1, h => by
    have h : (s ρ st).seq (runL l) = .nx ρ1 st1 := h
    rw [List.foldr_cons, ev_sSeq]
    cases e1 : s ρ st with
    | nx ρ2 st2 => rw [e1] at h; exact runL_eq e l h
    | _ => rw [e1] at h; cases h
theorem pre_ok (s a b c d e f : D) (st : Store) : runL pre [.val s, .val (.cel 0), .val a, .val b, .val c, .val d, .val e, .val f, .un, .un] st = .nx [.val s, .val (.cel 0), .val a, .val b, .val c, .val d, .val e, .val f, .own ((trs a b c d e f).map fun p => .tup [.clo p.1, p.2]), .un] st := by kernel_rfl
theorem pre_eq : sSeq w5 ( sSeq w6 ( sSeq w7 ( sSeq w8 ( sSeq w9 ( sSeq w10 ( sSeq w11 (w12))))))) = pre.foldr (fun x r => sSeq x r) w12 := rfl
theorem end_ok {s a b c d e f : D} {st : Store} (ha : a ∈ bads) (hb : b ∈ wrongs) (hc : c ∈ fars) (hd : d ∈ lows) (he : e ∈ starts) (hf : f ∈ longs) : w12 [.val s, .val (.cel 0), .val a, .val b, .val c, .val d, .val e, .val f, .own ((trs a b c d e f).map fun p => .tup [.clo p.1, p.2]), .un] st = .ret (.val (.bl true)) st := by
  have fz : frzL [8] [.val s, .val (.cel 0), .val a, .val b, .val c, .val d, .val e, .val f, .own ((trs a b c d e f).map fun p => .tup [.clo p.1, p.2]), .un] = [.val s, .val (.cel 0), .val a, .val b, .val c, .val d, .val e, .val f, .val (.lst ((trs a b c d e f).map fun p => .tup [.clo p.1, p.2])), .un] := rfl
  have am : ambOf capL [.val s, .val (.cel 0), .val a, .val b, .val c, .val d, .val e, .val f, .val (.lst ((trs a b c d e f).map fun p => .tup [.clo p.1, p.2])), .un] = amb a b c d e f := rfl
  have hD : ∀ p ∈ trs a b c d e f, Due (amb a b c d e f) p.1 p.2 st := by
    intro p hp
    simp only [trs, List.mem_cons, List.not_mem_nil, or_false] at hp
    rcases hp with rfl | rfl | rfl | rfl | rfl | rfl | rfl
    · exact t0 ha
    · exact t1 hb
    · exact t2 hc
    · exact t3 hf
    · exact t4 hd
    · exact t5 he
    · exact t6
  have ed := due_ok (by simp [trs]) hD
  show (sFrz [8] (sRet (callA capL 1 f__law_are_due (aC (vr 8) (aN))))) _ _ = _
  unfold sFrz
  rw [fz, ev_sRet]
  have ec : callA capL 1 f__law_are_due (aC (vr 8) (aN)) [.val s, .val (.cel 0), .val a, .val b, .val c, .val d, .val e, .val f, .val (.lst ((trs a b c d e f).map fun p => .tup [.clo p.1, p.2])), .un] st = .ok (.val (.bl true)) st := by
    unfold callA
    rw [m_bind, ev_aC, ev_vr]
    simp -implicitDefEqProofs only [List.getElem?_cons_zero, List.getElem?_cons_succ, bind_ok, ev_aN, List.length_cons, List.length_nil, Nat.zero_add, if_true, am]
    unfold noRz
    rw [ed]
  rw [ec, onR_ok]
theorem sem (ns : List Int) (hl : ns.length ≤ 63) (hb : ∀ z ∈ ns, Builtin.Int.intBits z ≤ 1048576) : ∃ st, runF N_law S_law [.scr (ns.map D.int)] [] = .ok (.val (.bl true)) st := by
  obtain ⟨st0, e0, p0⟩ := Dn.Pa.pen_ok ns hl
  rw [← pen_is] at e0
  obtain ⟨st1, e1, p1⟩ := w1_ok (s := .scr (ns.map D.int)) p0
  obtain ⟨a, b, st2, e2, ha, hb', p2⟩ := w2_ok (s := .scr (ns.map D.int)) p1 (by omega)
  obtain ⟨c, d, e, st3, e3, hc, hd, he, p3⟩ := w3_ok (s := .scr (ns.map D.int)) (a := a) (b := b) p2 (by omega)
  obtain ⟨f, st4, e4, hf, p4⟩ := w4_ok (s := .scr (ns.map D.int)) (a := a) (b := b) (c := c) (d := d) (e := e) p3 (by omega)
  refine ⟨st4, ?_⟩
  have hs : startE N_law [.scr (ns.map D.int)] = [.val (.scr (ns.map D.int)), .un, .un, .un, .un, .un, .un, .un, .un, .un] := rfl
  rw [ev_runF, hs, law_eq, ev_sSeq, w0_ok e0, seq_nx, ev_sSeq, e1, seq_nx, ev_sSeq, e2, seq_nx, ev_sSeq, e3, seq_nx, ev_sSeq, e4, seq_nx, pre_eq, runL_eq _ pre (pre_ok _ _ _ _ _ _ _ st4), end_ok ha hb' hc hd he hf, out_ret]
end K78

set_option Elab.async false
set_option linter.all false
set_option maxRecDepth 100000
set_option maxHeartbeats 0
namespace K78
open PySem PySem.Spec PyProof.Rows L2 Dn
abbrev hk : PySem.W.Hook := hookY 6 fa fn [("law", none)] ex
/-- what the law's mirror must give -/
def Sem : Prop := ∀ ns : List Int, ns.length ≤ 63 → (∀ z ∈ ns, Builtin.Int.intBits z ≤ 1048576) → ∃ st, runF N_law S_law [.scr (ns.map D.int)] [] = .ok (.val (.bl true)) st
theorem law_at (hsem : Sem) {w : World} {h : Heap} {mg : Str → Option Value} {f : Addr} {K : PySem.W.Frag} (KX : K.In h) (c : SaysY fa fn [("law", none)] ex h K) (G : h.Ns mainGlobals mg) (hmg : mg ("law" : Str) = some (.ref f)) :
    LawAtG PySem.Challenge.rw_everyminor_k78_sums_of_powers_and_tables w K (L2.CX PySem.Challenge.pw_everyminor_k78_sums_of_powers_and_tables w) 15 63 "script" mg f h := by
  have e := hmg.symm.trans (He.glo_ok KX G (c.t.fact 48 (f := .glo "law") rfl))
  cases e
  obtain ⟨fd, F⟩ := c.t.def_ 47 (d := d47) rfl
  refine ⟨fd, [He.cT K ("law", none)], spL 63 [(He.cT K ("law", none)).2] K, fun p hp => ?_, fun p hp => ?_, fun p hp => ?_, law_binds F, fun H a ns h1 h2 h3 h4 => ⟨a, ns, rfl, h1, h2, fun P hP => ?_, h4, fun _ => rfl⟩, fun base hb hn TB => ?_⟩
  · rw [List.mem_singleton.mp hp]; exact c.empty _ (List.mem_singleton.mpr rfl)
  · rw [List.mem_singleton.mp hp]; exact c.out _ (List.mem_singleton.mpr rfl)
  · rw [List.mem_singleton.mp hp]; exact PySem.W.codeHd_of_K KX (c.hd _ (List.mem_singleton.mpr rfl))
  · rw [List.mem_singleton.mp hP]; exact h3 _ (List.mem_singleton.mpr rfl)
  · exact law_walk (P := PySem.Challenge.pw_everyminor_k78_sums_of_powers_and_tables) (w := w) (pa := ⟨[], (excL.map (·.1)).map (He.ga K), lamL, [], [], [((He.cT K ("law", none)).2, "law.<locals>.<lambda>")]⟩) ⟨hb, hn, c.t, c.more, rfl, rfl⟩ F (fun q hq => by rw [List.mem_singleton.mp hq]; exact List.mem_singleton.mpr rfl) rfl (He.cT K ("law", none)).2 (TB _ (List.mem_singleton.mpr rfl)) rfl 63 hsem
end K78
open PySem PySem.W PyProof.Rows
set_option maxHeartbeats 0 in
theorem PySem.Challenge.cw_everyminor_k78_sums_of_powers_and_tables_holds : PySem.Challenge.rw_everyminor_k78_sums_of_powers_and_tables.Holds := by
  w_on; o_law; o_head K78.hk; (case hw => w_witness2)
  refine Dn.walk_ofG (l := PySem.Challenge.rw_everyminor_k78_sums_of_powers_and_tables) (n := 63) (k := 15) (x := "script") (CX := fun w => L2.CX PySem.Challenge.pw_everyminor_k78_sums_of_powers_and_tables w) rfl (by decide) (by kernel_rfl) ⟨rfl, by decide, by decide⟩ (fun w mg fa h Y G hmg => ?_) (fun w H s e s' z => by obtain ⟨_, _, _, _, _, _, _, _, _, _, _, _, z⟩ := z; exact z)
  obtain ⟨K, KX, c⟩ := Y
  exact ⟨K, KX, K78.law_at K78.sem KX c G hmg⟩
