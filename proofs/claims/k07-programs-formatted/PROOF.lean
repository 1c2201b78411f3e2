import PyProof.Rows.All
import Wide.All
import OpenK.AllK
import Wide.FinOn
import HandS.ForMost
import HandS.ForExc
import HandS.Walk
import HandS.Lambda
import HandS.IsInst
import HandS.TupAny
import HandS.More
import PyProof.ReprRoads
import HandS.Iter
import HandS.Set
import HandS.TupSets
import KE.SortData
import KE.KDictSum
import HandS.DictComp
import HandS.ExcValue
import HandS.Dict
import HandS.ListItems
import HandS.Style
import HandS.OwnEq
import HandS.DeepEq
import PyProof.InstEq
import KE.DataMinMax
import HandS.Exc
import HandS.ExcOwn
import HandS.ExcIs
import PyProof.ExcBaseAll.ValueError
import HandS.SetFor
import HandS.SetBool
import HandS.TupLe
import PyProof.DictValues
import PyProof.DictWalks
import PyProof.MinMaxWalk
import PyProof.WalkInts
import PyProof.DictUpdate
import HandS.Comp
import PyProof.ListStr
import HandS.ExcInit
import HandS.ExcField
import HandS.ClsMeth
import HandS.FStr
import HandS.Nested
import HandS.SortKw
import KE.SortKeyHeap
import PyProof.TupleOfSeq
import HandS.EndTab
import KE.KNestM
import PySem.Challenge.RW_scopenames_k07_programs_formatted
set_option Elab.async false
set_option linter.all false
set_option maxRecDepth 100000
set_option maxHeartbeats 4000000
/-! DLa: values as trees, what stands for them in the tracked heap, readings over trees. -/
namespace DL
open PySem PySem.Spec PyProof.Rows L2

/-- a value with all that it holds; ref: an object that is told by its address (it may change), pen: the law's pen -/
inductive D where
  | non | bl (b : Bool) | int (i : Int) | str (x : Str) | ty (n : String)
  | lst (xs : List D) | tup (xs : List D) | dic (kvs : List (Key × D)) | obj (n : Str) (fs : List (Str × D))
  | ref (a : Addr) | pen
  /-- an exception that was caught: its class, its fields -/
  | exc (n : Str) (fs : List (Str × D))
/-- a thing that may change, by its own parts -/
inductive MO where
  | lst (xs : List D) | dic (kvs : List (Key × D)) | ins (n : Str) (dx : Addr) (fs : List (Str × D))
  /-- the table of code objects of a def that makes a lambda, which has the name q -/
  | tab (q : Str)
abbrev Mem := Addr → Option MO
/-- the state: what may change, how often the pen was asked (at most) -/
abbrev En := List (Option D)
structure W where
  m : Mem
  n : Nat
  /-- what is wanted of an exception that leaves: its class, its fields, the state -/
  e : En → Str → Option (List (Str × D)) → Mem → Nat → Prop
def W.tick (w : W) (k : Nat) : W := { w with n := w.n + k }
/-- no exception leaves; as ahead -/
def W.mute (w : W) : W := { w with e := fun _ _ _ _ _ => False }
/-- in a callee -/
def W.inn (w : W) (env : En) : W := { w with e := fun _ => w.e env }
/-- an exception leaves -/
def W.rz (w : W) (C : Str) (fs : Option (List (Str × D))) : Prop := w.e [] C fs w.m w.n
def W.as (w w0 : W) : W := { w with e := w0.e }
theorem W.as_mute {w : W} : w.mute.as w = w := rfl
def updM (M : Mem) (a : Addr) (o : MO) : Mem := fun b => if b = a then some o else M b
def delM (M : Mem) (a : Addr) : Mem := fun b => if b = a then none else M b
def W.put (w : W) (a : Addr) (o : MO) : W := { w with m := updM w.m a o }
def W.del (w : W) (a : Addr) : W := { w with m := delM w.m a }
theorem updM_same {M : Mem} {a : Addr} {o : MO} : updM M a o a = some o := by unfold updM; rw [if_pos rfl]
theorem updM_ne {M : Mem} {a b : Addr} {o : MO} (h : b ≠ a) : updM M a o b = M b := by unfold updM; rw [if_neg h]
theorem updM_upd {M : Mem} {a : Addr} {o u : MO} : updM (updM M a o) a u = updM M a u := by
  funext b; unfold updM; split <;> rfl
theorem updM_comm {M : Mem} {a b : Addr} {o u : MO} (h : a ≠ b) : updM (updM M a o) b u = updM (updM M b u) a o := by
  funext c; unfold updM
  by_cases h1 : c = b
  · subst h1; rw [if_pos rfl, if_neg (Ne.symm h), if_pos rfl]
  · rw [if_neg h1]
    by_cases h2 : c = a
    · rw [if_pos h2, if_pos h2]
    · rw [if_neg h2, if_neg h2, if_neg h1]
theorem delM_upd {M : Mem} {a : Addr} {o : MO} (h : M a = none) : delM (updM M a o) a = M := by
  funext b; unfold delM updM
  by_cases e : b = a
  · rw [if_pos e, e, h]
  · rw [if_neg e, if_neg e]
theorem delM_same {M : Mem} {a : Addr} : delM M a a = none := by unfold delM; rw [if_pos rfl]
theorem delM_ne {M : Mem} {a b : Addr} (h : b ≠ a) : delM M a b = M b := by unfold delM; rw [if_neg h]
theorem W.put_put {w : W} {a : Addr} {o u : MO} : (w.put a o).put a u = w.put a u := by unfold W.put; rw [updM_upd]
theorem W.del_put {w : W} {a : Addr} {o : MO} (h : w.m a = none) : (w.put a o).del a = w := by
  unfold W.put W.del; rw [delM_upd h]
theorem W.put_at {w : W} {a : Addr} {o : MO} : (w.put a o).m a = some o := updM_same
theorem W.put_ne {w : W} {a b : Addr} {o : MO} (h : b ≠ a) : (w.put a o).m b = w.m b := updM_ne h
theorem W.put_n {w : W} {a : Addr} {o : MO} : (w.put a o).n = w.n := rfl
theorem W.tick_put {w : W} {a : Addr} {o : MO} {k : Nat} : (w.put a o).tick k = (w.tick k).put a o := rfl
theorem W.tick_del {w : W} {a : Addr} {k : Nat} : (w.del a).tick k = (w.tick k).del a := rfl
theorem W.tick_tick {w : W} {j k : Nat} : (w.tick j).tick k = w.tick (j + k) := by unfold W.tick; rw [Nat.add_assoc]
theorem W.tick0 {w : W} : w.tick 0 = w := rfl
theorem W.tick_m {w : W} {k : Nat} : (w.tick k).m = w.m := rfl
theorem W.tick_n {w : W} {k : Nat} : (w.tick k).n = w.n + k := rfl

/-- what is known of the heap and hangs on no one: G the objects that do not change any more, pm the pens -/
structure Gh where
  G : Hp
  pm : Addr → Bool
/-- what is fixed while an expression runs: L the locked ones, F the kept ones -/
structure Ck where
  L : Addr → Option Obj
  F : Hp
  e : En → Str → Option (List (Str × D)) → Mem → Nat → Prop
/-- a class of the module by its name -/
def ClsAt (K : PySem.W.Frag) (n : Str) (C : Addr) : Prop := PySem.W.nsIn K mainGlobals n = some (some (.ref C))
theorem ClsAt.eq {K : PySem.W.Frag} {n : Str} {C C' : Addr} (h : ClsAt K n C) (h' : ClsAt K n C') : C' = C := by
  have e := h.symm.trans h'
  cases e; rfl
/-- an exception object, caught: its class, its dict -/
def ExcO (a : Addr) (cls : Value) (d : Option Addr) : HO := .ext fun h => ∃ (oe : Obj) (vs : Array Value), h.get? a = some oe ∧ oe.cls = cls ∧ oe.dict = d ∧ oe.data = .fields vs
def ExcF (G : Hp) : Option Addr → List (Str × V) → Prop
  | none, xs => xs = []
  | some dx, xs => xs ≠ [] ∧ G dx = some (.xd xs)
mutual
inductive Rep (K : PySem.W.Frag) (g : Gh) : V → D → Prop
  | non : Rep K g .non .non
  | bl (b : Bool) : Rep K g (.bl b) (.bl b)
  | int (i : Int) : Rep K g (.int i) (.int i)
  | str (x : Str) : Rep K g (.str x) (.str x)
  | ty (n : String) : Rep K g (.ty n) (.ty n)
  | lst {a : Addr} {xs : List V} {ds : List D} : SqL K g.G a xs → RepL K g xs ds → Rep K g (.ref a) (.lst ds)
  | tup {a : Addr} {xs : List V} {ds : List D} : SqT K g.G a xs → RepL K g xs ds → Rep K g (.ref a) (.tup ds)
  | dic {a : Addr} {xs : List (Key × V)} {ds : List (Key × D)} : g.G a = some (.dK xs) → RepK K g xs ds → Rep K g (.ref a) (.dic ds)
  | obj {a C dx : Addr} {n : Str} {xs : List (Str × V)} {ds : List (Str × D)} : ClsAt K n C → g.G a = some (.ins C dx xs) → RepF K g xs ds → Rep K g (.ref a) (.obj n ds)
  | ref (a : Addr) : Rep K g (.ref a) (.ref a)
  | pen {a : Addr} : g.pm a = true → Rep K g (.ref a) .pen
  | exc {a C : Addr} {n : Str} {od : Option Addr} {xs : List (Str × V)} {ds : List (Str × D)} : ClsAt K n C → g.G a = some (ExcO a (.ref C) od) → ExcF g.G od xs → RepF K g xs ds → Rep K g (.ref a) (.exc n ds)
inductive RepL (K : PySem.W.Frag) (g : Gh) : List V → List D → Prop
  | nil : RepL K g [] []
  | cons {v : V} {vs : List V} {d : D} {ds : List D} : Rep K g v d → RepL K g vs ds → RepL K g (v :: vs) (d :: ds)
inductive RepK (K : PySem.W.Frag) (g : Gh) : List (Key × V) → List (Key × D) → Prop
  | nil : RepK K g [] []
  | cons {k : Key} {v : V} {vs : List (Key × V)} {d : D} {ds : List (Key × D)} : Rep K g v d → RepK K g vs ds → RepK K g ((k, v) :: vs) ((k, d) :: ds)
inductive RepF (K : PySem.W.Frag) (g : Gh) : List (Str × V) → List (Str × D) → Prop
  | nil : RepF K g [] []
  | cons {k : Str} {v : V} {vs : List (Str × V)} {d : D} {ds : List (Str × D)} : Rep K g v d → RepF K g vs ds → RepF K g ((k, v) :: vs) ((k, d) :: ds)
end

/-- more is known -/
structure Gh.le (g g' : Gh) : Prop where
  G : ∀ a u, g.G a = some u → g'.G a = some u
  pm : ∀ a, g.pm a = true → g'.pm a = true
theorem Gh.le.rfl {g : Gh} : g.le g := ⟨fun _ _ h => h, fun _ h => h⟩
theorem Gh.le.trans {g g1 g2 : Gh} (a : g.le g1) (b : g1.le g2) : g.le g2 := ⟨fun c u h => b.G c u (a.G c u h), fun c h => b.pm c (a.pm c h)⟩

section
variable {K : PySem.W.Frag} {g g' : Gh}
theorem Rd_le (h : g.le g') {a : Addr} {u : HO} (r : Rd g.G a u) : Rd g'.G a u := by
  rcases r with r | ⟨o, r⟩
  · exact .inl (h.G _ _ r)
  · exact .inr ⟨o, h.G _ _ r⟩
theorem SqL_le (h : g.le g') {a : Addr} {xs : List V} (r : SqL K g.G a xs) : SqL K g'.G a xs := r.imp (Rd_le h) id
theorem ExcF_le (h : g.le g') {od : Option Addr} {xs : List (Str × V)} (r : ExcF g.G od xs) : ExcF g'.G od xs := by
  cases od with
  | none => exact r
  | some dx => exact ⟨r.1, h.G _ _ r.2⟩
theorem SqT_le (h : g.le g') {a : Addr} {xs : List V} (r : SqT K g.G a xs) : SqT K g'.G a xs := r.imp (Rd_le h) id
mutual
theorem Rep.le (h : g.le g') : ∀ {v : V} {d : D}, Rep K g v d → Rep K g' v d
  | _, _, .non => .non
  | _, _, .bl b => .bl b
  | _, _, .int i => .int i
  | _, _, .str x => .str x
  | _, _, .ty n => .ty n
  | _, _, .lst s r => .lst (SqL_le h s) (RepL.le h r)
  | _, _, .tup s r => .tup (SqT_le h s) (RepL.le h r)
  | _, _, .dic s r => .dic (h.G _ _ s) (RepK.le h r)
  | _, _, .obj k s r => .obj k (h.G _ _ s) (RepF.le h r)
  | _, _, .ref a => .ref a
  | _, _, .pen s => .pen (h.pm _ s)
  | _, _, .exc k s f r => .exc k (h.G _ _ s) (ExcF_le h f) (RepF.le h r)
theorem RepL.le (h : g.le g') : ∀ {v : List V} {d : List D}, RepL K g v d → RepL K g' v d
  | _, _, .nil => .nil
  | _, _, .cons a r => .cons (Rep.le h a) (RepL.le h r)
theorem RepK.le (h : g.le g') : ∀ {v : List (Key × V)} {d : List (Key × D)}, RepK K g v d → RepK K g' v d
  | _, _, .nil => .nil
  | _, _, .cons a r => .cons (Rep.le h a) (RepK.le h r)
theorem RepF.le (h : g.le g') : ∀ {v : List (Str × V)} {d : List (Str × D)}, RepF K g v d → RepF K g' v d
  | _, _, .nil => .nil
  | _, _, .cons a r => .cons (Rep.le h a) (RepF.le h r)
end
theorem RepL.length : ∀ {v : List V} {d : List D}, RepL K g v d → v.length = d.length
  | _, _, .nil => rfl
  | _, _, .cons _ r => congrArg Nat.succ (RepL.length r)
theorem RepK.length : ∀ {v : List (Key × V)} {d : List (Key × D)}, RepK K g v d → v.length = d.length
  | _, _, .nil => rfl
  | _, _, .cons _ r => congrArg Nat.succ (RepK.length r)
theorem RepF.length : ∀ {v : List (Str × V)} {d : List (Str × D)}, RepF K g v d → v.length = d.length
  | _, _, .nil => rfl
  | _, _, .cons _ r => congrArg Nat.succ (RepF.length r)
theorem RepL.get : ∀ {v : List V} {d : List D} {i : Nat} {x : D}, RepL K g v d → d[i]? = some x → ∃ u, v[i]? = some u ∧ Rep K g u x
  | _, _, _, _, .nil, e => by simp at e
  | _, _, 0, _, .cons a _, e => by simp at e; subst e; exact ⟨_, rfl, a⟩
  | _, _, i + 1, x, .cons _ r, e => by
    obtain ⟨u, h1, h2⟩ := RepL.get (i := i) (x := x) r (by simpa using e)
    exact ⟨u, by simpa using h1, h2⟩
theorem RepL.getV : ∀ {v : List V} {d : List D} {i : Nat} {u : V}, RepL K g v d → v[i]? = some u → ∃ x, d[i]? = some x ∧ Rep K g u x
  | _, _, _, _, .nil, e => by simp at e
  | _, _, 0, _, .cons a _, e => by simp at e; subst e; exact ⟨_, rfl, a⟩
  | _, _, i + 1, x, .cons _ r, e => by
    obtain ⟨u, h1, h2⟩ := RepL.getV (i := i) (u := x) r (by simpa using e)
    exact ⟨u, by simpa using h1, h2⟩
theorem RepL.append : ∀ {v v' : List V} {d d' : List D}, RepL K g v d → RepL K g v' d' → RepL K g (v ++ v') (d ++ d')
  | _, _, _, _, .nil, s => s
  | _, _, _, _, .cons a r, s => .cons a (RepL.append r s)
theorem RepL.take : ∀ {v : List V} {d : List D} (n : Nat), RepL K g v d → RepL K g (v.take n) (d.take n)
  | _, _, 0, _ => .nil
  | _, _, _ + 1, .nil => .nil
  | _, _, n + 1, .cons a r => .cons a (RepL.take n r)
theorem RepL.drop : ∀ {v : List V} {d : List D} (n : Nat), RepL K g v d → RepL K g (v.drop n) (d.drop n)
  | _, _, 0, r => r
  | _, _, _ + 1, .nil => .nil
  | _, _, n + 1, .cons _ r => RepL.drop n r
theorem RepL.reverse : ∀ {v : List V} {d : List D}, RepL K g v d → RepL K g v.reverse d.reverse
  | _, _, .nil => .nil
  | _, _, .cons a r => by
    rw [List.reverse_cons, List.reverse_cons]
    exact RepL.append (RepL.reverse r) (.cons a .nil)
theorem RepL.eraseIdx : ∀ {v : List V} {d : List D} (n : Nat), RepL K g v d → RepL K g (v.eraseIdx n) (d.eraseIdx n)
  | _, _, _, .nil => .nil
  | _, _, 0, .cons _ r => r
  | _, _, n + 1, .cons a r => .cons a (RepL.eraseIdx n r)
theorem RepL.set : ∀ {v : List V} {d : List D} (n : Nat) {x : V} {y : D}, Rep K g x y → RepL K g v d → RepL K g (v.set n x) (d.set n y)
  | _, _, _, _, _, _, .nil => .nil
  | _, _, 0, _, _, q, .cons _ r => .cons q r
  | _, _, n + 1, _, _, q, .cons a r => .cons a (RepL.set n q r)
theorem RepL.dropLast : ∀ {v : List V} {d : List D}, RepL K g v d → RepL K g v.dropLast d.dropLast := fun {v d} r => by
  rw [List.dropLast_eq_take, List.dropLast_eq_take, r.length]
  exact r.take _
end

/-- what stands at an address that may change -/
inductive RepM (K : PySem.W.Frag) (g : Gh) : MO → HO → Prop
  | lst {xs : List V} {ds : List D} : RepL K g xs ds → RepM K g (.lst ds) (.lst xs)
  | dic {xs : List (Key × V)} {ds : List (Key × D)} : RepK K g xs ds → RepM K g (.dic ds) (.dK xs)
  | ins {C dx : Addr} {n : Str} {xs : List (Str × V)} {ds : List (Str × D)} : ClsAt K n C → RepF K g xs ds → RepM K g (.ins n dx ds) (.ins C dx xs)
  | tab {q : Str} {ps : Array Value} : TriplesOk ps.toList → (∀ (pos : Pos) (cv : Value), codeAmong pos ps.toList = some cv → ∃ c, cv = .ref c ∧ g.G c = some (LamX.CodeO c q)) → RepM K g (.tab q) (.tbl ps)
theorem RepM.le {K : PySem.W.Frag} {g g' : Gh} (h : g.le g') {m : MO} {o : HO} (r : RepM K g m o) : RepM K g' m o := by
  cases r with
  | lst r => exact .lst (r.le h)
  | dic r => exact .dic (r.le h)
  | ins k r => exact .ins k (r.le h)
  | tab t r => exact .tab t fun pos cv e => let ⟨c, a, b⟩ := r pos cv e; ⟨c, a, h.G _ _ b⟩

/-- a pen: its cells (never changed), how often it was asked, what is left of the number -/
def PenR (K : PySem.W.Frag) (G : Hp) (xs : List V) (n : Nat) : Prop :=
  ∃ (c : Addr) (ns : List Int) (i : Nat) (r : Int), xs = [.ref c, .int (i : Nat), .int r] ∧ SqL K G c (ns.map V.int) ∧ ns.length ≤ 60 ∧ i ≤ n ∧ 0 ≤ r

structure Rel (K : PySem.W.Frag) (c : Ck) (g : Gh) (w : W) (H : Hp) : Prop where
  imm : ∀ a u, g.G a = some u → (c.L a = none ∧ H a = some u) ∨ ∃ o, c.L a = some o ∧ H a = some (.frz o u)
  lck : ∀ a o, c.L a = some o → ∃ u, g.G a = some (.dK u)
  mu : ∀ a m, w.m a = some m → g.G a = none ∧ c.F a = none ∧ g.pm a = false ∧ ∃ o, H a = some o ∧ RepM K g m o
  frm : ∀ a o, c.F a = some o → H a = some o ∧ g.G a = none ∧ g.pm a = false
  pen : ∀ a, g.pm a = true → g.G a = none ∧ ∃ xs, H a = some (.lst xs) ∧ PenR K g.G xs w.n
  ex : w.e = c.e

section
variable {K : PySem.W.Frag} {c : Ck} {g g' : Gh} {w : W} {H : Hp}
theorem Rel.noG (R : Rel K c g w H) {p : Addr} (h : H p = none) : g.G p = none := by
  cases e : g.G p with
  | none => rfl
  | some u =>
    rcases R.imm p u e with ⟨_, q⟩ | ⟨o, _, q⟩ <;> · rw [h] at q; cases q
theorem Rel.noM (R : Rel K c g w H) {p : Addr} (h : H p = none) : w.m p = none := by
  cases e : w.m p with
  | none => rfl
  | some u =>
    obtain ⟨_, _, _, o, q, _⟩ := R.mu p u e
    rw [h] at q; cases q
theorem Rel.noF (R : Rel K c g w H) {p : Addr} (h : H p = none) : c.F p = none := by
  cases e : c.F p with
  | none => rfl
  | some u =>
    obtain ⟨q, _⟩ := R.frm p u e
    rw [h] at q; cases q
theorem Rel.noP (R : Rel K c g w H) {p : Addr} (h : H p = none) : g.pm p = false := by
  cases e : g.pm p with
  | false => rfl
  | true =>
    obtain ⟨_, xs, q, _⟩ := R.pen p e
    rw [h] at q; cases q
theorem Rel.noL (R : Rel K c g w H) {p : Addr} (h : g.G p = none) : c.L p = none := by
  cases e : c.L p with
  | none => rfl
  | some o =>
    obtain ⟨u, q⟩ := R.lck p o e
    rw [h] at q; cases q
def Gh.add (g : Gh) (p : Addr) (o : HO) : Gh := ⟨upd g.G p o, g.pm⟩
theorem Gh.add_le {p : Addr} {o : HO} (h : g.G p = none) : g.le (g.add p o) :=
  ⟨fun a u e => by
    show upd g.G p o a = some u
    rw [upd_ne (ne_of_none e h)]
    exact e, fun _ e => e⟩
theorem Gh.add_at {p : Addr} {o : HO} : (g.add p o).G p = some o := upd_same
theorem PenR.le {xs : List V} {n n' : Nat} (h : g.le g') (hn : n ≤ n') (r : PenR K g.G xs n) : PenR K g'.G xs n' := by
  obtain ⟨c, ns, i, r, e, s, l, h1, h2⟩ := r
  exact ⟨c, ns, i, r, e, SqL_le h s, l, Nat.le_trans h1 hn, h2⟩
/-- a new object that will not change -/
theorem Rel.alloc (R : Rel K c g w H) {p : Addr} {o : HO} (h : H p = none) : Rel K c (g.add p o) w (upd H p o) := by
  have hG := R.noG h
  have le := Gh.add_le (o := o) hG
  have ne : ∀ {a : Addr}, g.pm a = true → a ≠ p := fun {a} e z => by rw [z, R.noP h] at e; cases e
  refine ⟨fun a u e => ?_, fun a q e => ?_, fun a m e => ?_, fun a q e => ?_, fun a e => ?_, R.ex⟩
  · by_cases ha : a = p
    · subst ha
      have e' : upd g.G a o a = some u := e
      rw [upd_same] at e'; cases e'
      exact .inl ⟨R.noL hG, upd_same⟩
    · have e' : upd g.G p o a = some u := e
      rw [upd_ne ha] at e'
      rw [upd_ne ha]
      exact R.imm a u e'
  · obtain ⟨u, q⟩ := R.lck a q e
    exact ⟨u, le.G _ _ q⟩
  · obtain ⟨h1, h2, h3, o', h4, h5⟩ := R.mu a m e
    have ha : a ≠ p := ne_of_none h4 h
    exact ⟨by show upd g.G p o a = none; rw [upd_ne ha]; exact h1, h2, h3, o', by rw [upd_ne ha]; exact h4, h5.le le⟩
  · obtain ⟨h1, h2, h3⟩ := R.frm a q e
    have ha : a ≠ p := ne_of_none h1 h
    exact ⟨by rw [upd_ne ha]; exact h1, by show upd g.G p o a = none; rw [upd_ne ha]; exact h2, h3⟩
  · obtain ⟨h1, xs, h2, h3⟩ := R.pen a e
    have ha : a ≠ p := ne_of_none h2 h
    exact ⟨by show upd g.G p o a = none; rw [upd_ne ha]; exact h1, xs, by rw [upd_ne ha]; exact h2, h3.le le (Nat.le_refl _)⟩
/-- a new object that may change -/
theorem Rel.allocM (R : Rel K c g w H) {p : Addr} {o : HO} {m : MO} (h : H p = none) (r : RepM K g m o) : Rel K c g (w.put p m) (upd H p o) := by
  have hG := R.noG h
  refine ⟨fun a u e => ?_, R.lck, fun a m' e => ?_, fun a q e => ?_, fun a e => ?_, R.ex⟩
  · have ha : a ≠ p := ne_of_none e hG
    rw [upd_ne ha]
    exact R.imm a u e
  · by_cases ha : a = p
    · subst ha
      have e' : updM w.m a m a = some m' := e
      rw [updM_same] at e'; cases e'
      exact ⟨hG, R.noF h, R.noP h, o, upd_same, r⟩
    · have e' : updM w.m p m a = some m' := e
      rw [updM_ne ha] at e'
      obtain ⟨h1, h2, h3, o', h4, h5⟩ := R.mu a m' e'
      exact ⟨h1, h2, h3, o', by rw [upd_ne ha]; exact h4, h5⟩
  · obtain ⟨h1, h2, h3⟩ := R.frm a q e
    exact ⟨by rw [upd_ne (ne_of_none h1 h)]; exact h1, h2, h3⟩
  · obtain ⟨h1, xs, h2, h3⟩ := R.pen a e
    exact ⟨h1, xs, by rw [upd_ne (ne_of_none h2 h)]; exact h2, h3⟩
/-- a changing object is written -/
theorem Rel.write (R : Rel K c g w H) {p : Addr} {o : HO} {m m0 : MO} (h : w.m p = some m0) (r : RepM K g m o) : Rel K c g (w.put p m) (upd H p o) := by
  obtain ⟨hG, hF, hP, o0, h0, _⟩ := R.mu p m0 h
  refine ⟨fun a u e => ?_, R.lck, fun a m' e => ?_, fun a q e => ?_, fun a e => ?_, R.ex⟩
  · have ha : a ≠ p := ne_of_none e hG
    rw [upd_ne ha]
    exact R.imm a u e
  · by_cases ha : a = p
    · subst ha
      have e' : updM w.m a m a = some m' := e
      rw [updM_same] at e'; cases e'
      exact ⟨hG, hF, hP, o, upd_same, r⟩
    · have e' : updM w.m p m a = some m' := e
      rw [updM_ne ha] at e'
      obtain ⟨h1, h2, h3, o', h4, h5⟩ := R.mu a m' e'
      exact ⟨h1, h2, h3, o', by rw [upd_ne ha]; exact h4, h5⟩
  · obtain ⟨h1, h2, h3⟩ := R.frm a q e
    have ha : a ≠ p := fun z => by rw [z, hF] at e; cases e
    exact ⟨by rw [upd_ne ha]; exact h1, h2, h3⟩
  · obtain ⟨h1, xs, h2, h3⟩ := R.pen a e
    have ha : a ≠ p := fun z => by rw [z, hP] at e; cases e
    exact ⟨h1, xs, by rw [upd_ne ha]; exact h2, h3⟩
/-- a changing object is held fast from now on -/
theorem Rel.freeze (R : Rel K c g w H) {p : Addr} {m : MO} (h : w.m p = some m) : ∃ o, RepM K g m o ∧ g.le (g.add p o) ∧ Rel K c (g.add p o) (w.del p) H := by
  obtain ⟨hG, hF, hP, o, h0, r⟩ := R.mu p m h
  have le := Gh.add_le (o := o) hG
  refine ⟨o, r, le, fun a u e => ?_, fun a q e => ?_, fun a m' e => ?_, fun a q e => ?_, fun a e => ?_, R.ex⟩
  · by_cases ha : a = p
    · subst ha
      have e' : upd g.G a o a = some u := e
      rw [upd_same] at e'; cases e'
      exact .inl ⟨R.noL hG, h0⟩
    · have e' : upd g.G p o a = some u := e
      rw [upd_ne ha] at e'
      exact R.imm a u e'
  · obtain ⟨u, q⟩ := R.lck a q e
    exact ⟨u, le.G _ _ q⟩
  · have ha : a ≠ p := fun z => by
      subst z
      have e' : delM w.m a a = some m' := e
      rw [delM_same] at e'; cases e'
    have e' : delM w.m p a = some m' := e
    rw [delM_ne ha] at e'
    obtain ⟨h1, h2, h3, o', h4, h5⟩ := R.mu a m' e'
    exact ⟨by show upd g.G p o a = none; rw [upd_ne ha]; exact h1, h2, h3, o', h4, h5.le le⟩
  · obtain ⟨h1, h2, h3⟩ := R.frm a q e
    have ha : a ≠ p := fun z => by rw [z, hF] at e; cases e
    exact ⟨h1, by show upd g.G p o a = none; rw [upd_ne ha]; exact h2, h3⟩
  · obtain ⟨h1, xs, h2, h3⟩ := R.pen a e
    have ha : a ≠ p := fun z => by
      have e' : g.pm a = true := e
      rw [z, hP] at e'; cases e'
    exact ⟨by show upd g.G p o a = none; rw [upd_ne ha]; exact h1, xs, h2, h3.le le (Nat.le_refl _)⟩
/-- the pen was asked more often, at most -/
theorem Rel.later (R : Rel K c g w H) (k : Nat) : Rel K c g (w.tick k) H :=
  ⟨R.imm, R.lck, R.mu, R.frm, fun a e => by
    obtain ⟨h1, xs, h2, h3⟩ := R.pen a e
    exact ⟨h1, xs, h2, h3.le .rfl (Nat.le_add_right _ _)⟩, R.ex⟩
/-- what changes is forgotten -/
theorem Rel.drop (R : Rel K c g w H) (p : Addr) : Rel K c g (w.del p) H :=
  ⟨R.imm, R.lck, fun a m e => by
    have ha : a ≠ p := fun z => by
      subst z
      have e' : delM w.m a a = some m := e
      rw [delM_same] at e'; cases e'
    have e' : delM w.m p a = some m := e
    rw [delM_ne ha] at e'
    exact R.mu a m e', R.frm, R.pen, R.ex⟩
/-- what does not change may be read -/
theorem Rel.rd (R : Rel K c g w H) {a : Addr} {u : HO} (h : g.G a = some u) : Rd H a u := by
  rcases R.imm a u h with ⟨_, q⟩ | ⟨o, _, q⟩
  · exact .inl q
  · exact .inr ⟨o, q⟩
theorem Rel.sqL (R : Rel K c g w H) {a : Addr} {xs : List V} (h : SqL K g.G a xs) : SqL K H a xs := by
  rcases h with (h | ⟨o, h⟩) | h
  · exact .inl (R.rd h)
  · rcases R.imm a _ h with ⟨_, q⟩ | ⟨o', e, q⟩
    · exact .inl (.inr ⟨o, q⟩)
    · obtain ⟨u, q'⟩ := R.lck a o' e
      rw [h] at q'; cases q'
  · exact .inr h
theorem Rel.sqT (R : Rel K c g w H) {a : Addr} {xs : List V} (h : SqT K g.G a xs) : SqT K H a xs := by
  rcases h with (h | ⟨o, h⟩) | h
  · exact .inl (R.rd h)
  · rcases R.imm a _ h with ⟨_, q⟩ | ⟨o', e, q⟩
    · exact .inl (.inr ⟨o, q⟩)
    · obtain ⟨u, q'⟩ := R.lck a o' e
      rw [h] at q'; cases q'
  · exact .inr h
/-- an instance is never locked -/
theorem Rel.ins (R : Rel K c g w H) {a C dx : Addr} {fs : List (Str × V)} (h : g.G a = some (.ins C dx fs)) : H a = some (.ins C dx fs) := by
  rcases R.imm a _ h with ⟨_, q⟩ | ⟨o', e, q⟩
  · exact q
  · obtain ⟨u, q'⟩ := R.lck a o' e
    rw [h] at q'; cases q'
theorem Rel.tupH (R : Rel K c g w H) {a : Addr} {xs : List V} (h : g.G a = some (.tup xs)) : H a = some (.tup xs) := by
  rcases R.imm a _ h with ⟨_, q⟩ | ⟨o', e, q⟩
  · exact q
  · obtain ⟨u, q'⟩ := R.lck a o' e
    rw [h] at q'; cases q'
end
end DL

/-! DLb: readings over trees; names, constants, operators, tests, blocks. -/
namespace DL
open PySem PySem.Spec PyProof.Rows L2
abbrev St := L2.St

theorem PE_imp {X : Cx} {e : Expr} {t t' : TE} (h : PE X e t) (i : ∀ σ H Q, t' σ H Q → t σ H Q) : PE X e t' := ⟨fun pins s σ H Q I q => h.run pins s σ H Q I (i σ H Q q)⟩
theorem PT_imp {X : Cx} {e : Expr} {t t' : TT} (h : PT X e t) (i : ∀ σ H Q, t' σ H Q → t σ H Q) : PT X e t' := ⟨fun pins s σ H Q I q => h.run pins s σ H Q I (i σ H Q q)⟩
theorem PW_imp {X : Cx} {e : Expr} {t t' : TT} (h : PW X e t) (i : ∀ σ H Q, t' σ H Q → t σ H Q) : PW X e t' := ⟨fun wh pins s σ H Q I q => h.run wh pins s σ H Q I (i σ H Q q)⟩
theorem PA_imp {X : Cx} {e : List Expr} {t t' : TA} (h : PA X e t) (i : ∀ σ H Q, t' σ H Q → t σ H Q) : PA X e t' := ⟨fun po pins s σ H Q I q => h.run po pins s σ H Q I (i σ H Q q)⟩
theorem PS_imp {X : Cx} {e : Stmt} {t t' : TS} (h : PS X e t) (i : ∀ D σ H, t' D σ H → t D σ H) : PS X e t' := ⟨fun pins s σ H D I q => h.run pins s σ H D I (i D σ H q)⟩
theorem PSs_imp {X : Cx} {e : List Stmt} {t t' : TS} (h : PSs X e t) (i : ∀ D σ H, t' D σ H → t D σ H) : PSs X e t' := ⟨fun pins s σ H D I q => h.run pins s σ H D I (i D σ H q)⟩
theorem PS_or {X : Cx} {e : Stmt} {t t' : TS} (h : PS X e t) (h' : PS X e t') : PS X e fun D σ H => t D σ H ∨ t' D σ H := ⟨fun pins s σ H D I q => q.elim (h.run pins s σ H D I) (h'.run pins s σ H D I)⟩
theorem PE_or {X : Cx} {e : Expr} {t t' : TE} (h : PE X e t) (h' : PE X e t') : PE X e fun σ H Q => t σ H Q ∨ t' σ H Q := ⟨fun pins s σ H Q I q => q.elim (h.run pins s σ H Q I) (h'.run pins s σ H Q I)⟩
theorem OpR_or {X : Cx} {f : Value → Value → Sem Value} {r r' : R2} (h : OpR X f r) (h' : OpR X f r') : OpR X f fun x y H Q => r x y H Q ∨ r' x y H Q := fun pins s σ H x y v u Q I rx ry q =>
  q.elim (h pins s σ H x y v u Q I rx ry) (h' pins s σ H x y v u Q I rx ry)

/-! ### the readings' types -/
abbrev DK := D → W → Prop
abbrev DTE := En → W → DK → Prop
abbrev DTT := En → W → (Bool → W → Prop) → Prop
abbrev DTA := En → W → (List D → W → Prop) → Prop
structure DEnds where
  nx : En → W → Prop
  rt : DK
  bk : En → W → Prop := fun _ _ => False
  ct : En → W → Prop := fun _ _ => False
abbrev DTS := DEnds → En → W → Prop

structure EnR (K : PySem.W.Frag) (g : Gh) (env : En) (σ : St) : Prop where
  len : env.length = σ.length
  at_ : ∀ (i : Nat) d, env[i]? = some (some d) → ∃ v, σ[i]? = some (some v) ∧ Rep K g v d
theorem EnR.le {K : PySem.W.Frag} {g g' : Gh} (h : g.le g') {env : En} {σ : St} (e : EnR K g env σ) : EnR K g' env σ := ⟨e.len, fun i d q => let ⟨v, a, r⟩ := e.at_ i d q; ⟨v, a, r.le h⟩⟩
theorem EnR.set {K : PySem.W.Frag} {g : Gh} {env : En} {σ : St} (e : EnR K g env σ) {i : Nat} {v : V} {d : D} (r : Rep K g v d) : EnR K g (env.set i (some d)) (σ.set i (some v)) := by
  refine ⟨by rw [List.length_set, List.length_set]; exact e.len, fun j x q => ?_⟩
  by_cases h : i = j
  · subst h
    by_cases hi : i < env.length
    · rw [List.getElem?_set_self hi] at q
      cases q
      exact ⟨v, by rw [List.getElem?_set_self (by rw [← e.len]; exact hi)], r⟩
    · rw [List.getElem?_eq_none (by rw [List.length_set]; omega)] at q
      cases q
  · rw [List.getElem?_set_ne h] at q
    rw [List.getElem?_set_ne h]
    exact e.at_ j x q
/-- a slot is told otherwise -/
theorem EnR.tell {K : PySem.W.Frag} {g : Gh} {env : En} {σ : St} (e : EnR K g env σ) {i : Nat} {d : D} (r : ∀ v, σ[i]? = some (some v) → Rep K g v d) {d0 : D} (h0 : env[i]? = some (some d0)) : EnR K g (env.set i (some d)) σ := by
  refine ⟨by rw [List.length_set]; exact e.len, fun j x q => ?_⟩
  by_cases h : i = j
  · subst h
    obtain ⟨v, a, _⟩ := e.at_ i d0 h0
    have hi : i < env.length := (List.getElem?_eq_some_iff.mp h0).1
    rw [List.getElem?_set_self hi] at q
    cases q
    exact ⟨v, a, r v a⟩
  · rw [List.getElem?_set_ne h] at q
    exact e.at_ j x q
/-- a slot is forgotten -/
theorem EnR.none {K : PySem.W.Frag} {g : Gh} {env : En} {σ : St} (e : EnR K g env σ) (i : Nat) : EnR K g (env.set i none) σ := by
  refine ⟨by rw [List.length_set]; exact e.len, fun j x q => ?_⟩
  by_cases h : i = j
  · subst h
    by_cases hi : i < env.length
    · rw [List.getElem?_set_self hi] at q; cases q
    · rw [List.getElem?_eq_none (by rw [List.length_set]; omega)] at q; cases q
  · rw [List.getElem?_set_ne h] at q
    exact e.at_ j x q

/-! ### from a reading over trees to one over the tracked heap -/
def PQ (K : PySem.W.Frag) (c : Ck) (g : Gh) (Q : DK) (v : V) (H : Hp) : Prop := ∃ g' w d, g.le g' ∧ Rel K c g' w H ∧ Rep K g' v d ∧ Q d w
def PB (K : PySem.W.Frag) (c : Ck) (g : Gh) (Q : Bool → W → Prop) (b : Bool) (H : Hp) : Prop := ∃ g' w, g.le g' ∧ Rel K c g' w H ∧ Q b w
def PL (K : PySem.W.Frag) (c : Ck) (g : Gh) (Q : List D → W → Prop) (vs : List V) (H : Hp) : Prop := ∃ g' w ds, g.le g' ∧ Rel K c g' w H ∧ RepL K g' vs ds ∧ Q ds w
theorem PQ.up {K : PySem.W.Frag} {c : Ck} {g g1 : Gh} {Q : DK} {v : V} {H : Hp} (l : g.le g1) (h : PQ K c g1 Q v H) : PQ K c g Q v H := let ⟨g', w, d, a, b⟩ := h; ⟨g', w, d, l.trans a, b⟩
theorem PB.up {K : PySem.W.Frag} {c : Ck} {g g1 : Gh} {Q : Bool → W → Prop} {v : Bool} {H : Hp} (l : g.le g1) (h : PB K c g1 Q v H) : PB K c g Q v H := let ⟨g', w, a, b⟩ := h; ⟨g', w, l.trans a, b⟩
theorem PL.up {K : PySem.W.Frag} {c : Ck} {g g1 : Gh} {Q : List D → W → Prop} {v : List V} {H : Hp} (l : g.le g1) (h : PL K c g1 Q v H) : PL K c g Q v H := let ⟨g', w, d, a, b⟩ := h; ⟨g', w, d, l.trans a, b⟩

/-- an exception as it is wanted -/
def PX (K : PySem.W.Frag) (c : Ck) (g : Gh) (e : Str → Option (List (Str × D)) → Mem → Nat → Prop) (cls : Value) (d : Option Addr) (H : Hp) : Prop := ∃ g' w C fs, (∃ a, ClsAt K C a ∧ cls = .ref a) ∧ g.le g' ∧ Rel K c g' w H ∧ e C fs w.m w.n ∧
  match d with
  | none => fs = none
  | some dx => ∃ xs ds, xs ≠ [] ∧ g'.G dx = some (.xd xs) ∧ RepF K g' xs ds ∧ fs = some ds
theorem PX.up {K : PySem.W.Frag} {c : Ck} {g g1 : Gh} {e : Str → Option (List (Str × D)) → Mem → Nat → Prop} {cls : Value} {d : Option Addr} {H : Hp} (l : g.le g1) (h : PX K c g1 e cls d H) : PX K c g e cls d H :=
  let ⟨g', w, C, fs, a, b, r⟩ := h; ⟨g', w, C, fs, a, l.trans b, r⟩
/-- where one stands -/
structure Bx (K : PySem.W.Frag) (Wv : WX) (c : Ck) (g : Gh) (env : En) (w : W) (σ : St) (H : Hp) : Prop where
  R : Rel K c g w H
  E : EnR K g env σ
  X : ∀ env' σ' H' cls d g', g.le g' → EnR K g' env' σ' → PX K c g' (c.e env') cls d H' → Wv cls d σ' H'
theorem Bx.step {K : PySem.W.Frag} {Wv : WX} {c : Ck} {g g' : Gh} {env : En} {w w' : W} {σ : St} {H H' : Hp} (B : Bx K Wv c g env w σ H) (l : g.le g') (R : Rel K c g' w' H') : Bx K Wv c g' env w' σ H' :=
  ⟨R, B.E.le l, fun env' σ' H' cls d g2 l2 => B.X env' σ' H' cls d g2 (l.trans l2)⟩
theorem Bx.env {K : PySem.W.Frag} {Wv : WX} {c : Ck} {g : Gh} {env env' : En} {w : W} {σ σ' : St} {H : Hp} (B : Bx K Wv c g env w σ H) (E : EnR K g env' σ') : Bx K Wv c g env' w σ' H := ⟨B.R, E, B.X⟩
def liftE (K : PySem.W.Frag) (Wv : WX) (t : DTE) : TE := fun σ H Qv => ∃ c g env w Q, Bx K Wv c g env w σ H ∧ t env w Q ∧ ∀ v H', PQ K c g Q v H' → Qv v H'
def liftT (K : PySem.W.Frag) (Wv : WX) (t : DTT) : TT := fun σ H Qv => ∃ c g env w Q, Bx K Wv c g env w σ H ∧ t env w Q ∧ ∀ v H', PB K c g Q v H' → Qv v H'
def liftA (K : PySem.W.Frag) (Wv : WX) (t : DTA) : TA := fun σ H Qv => ∃ c g env w Q, Bx K Wv c g env w σ H ∧ t env w Q ∧ ∀ v H', PL K c g Q v H' → Qv v H'
structure EndsLe (K : PySem.W.Frag) (Wv : WX) (c : Ck) (g : Gh) (D : DEnds) (Dv : Ends) : Prop where
  nx : ∀ env w σ H g', g.le g' → Bx K Wv c g' env w σ H → D.nx env w → Dv.nx σ H
  rt : ∀ v H, PQ K c g D.rt v H → Dv.rt v H
  bk : ∀ env w σ H g', g.le g' → Bx K Wv c g' env w σ H → D.bk env w → Dv.bk σ H
  ct : ∀ env w σ H g', g.le g' → Bx K Wv c g' env w σ H → D.ct env w → Dv.ct σ H
theorem EndsLe.up {K : PySem.W.Frag} {Wv : WX} {c : Ck} {g g1 : Gh} {D : DEnds} {Dv : Ends} (l : g.le g1) (h : EndsLe K Wv c g D Dv) : EndsLe K Wv c g1 D Dv :=
  ⟨fun env w σ H g' a => h.nx env w σ H g' (l.trans a), fun v H q => h.rt v H (q.up l), fun env w σ H g' a => h.bk env w σ H g' (l.trans a), fun env w σ H g' a => h.ct env w σ H g' (l.trans a)⟩
def liftS (K : PySem.W.Frag) (Wv : WX) (t : DTS) : TS := fun Dv σ H => ∃ c g env w D, Bx K Wv c g env w σ H ∧ t D env w ∧ EndsLe K Wv c g D Dv

/-- a call's way out, from any place -/
structure DE (X : Cx) (Wv : WX) (e : Expr) (t : DTE) : Prop where
  pe : PE X e (liftE X.K Wv t)
structure DT (X : Cx) (Wv : WX) (e : Expr) (t : DTT) : Prop where
  pt : PT X e (liftT X.K Wv t)
structure DW (X : Cx) (Wv : WX) (e : Expr) (t : DTT) : Prop where
  pw : PW X e (liftT X.K Wv t)
structure DA (X : Cx) (Wv : WX) (es : List Expr) (t : DTA) : Prop where
  pa : PA X es (liftA X.K Wv t)
structure DS (X : Cx) (Wv : WX) (st : Stmt) (t : DTS) : Prop where
  ps : PS X st (liftS X.K Wv t)
structure DSs (X : Cx) (Wv : WX) (st : List Stmt) (t : DTS) : Prop where
  ps : PSs X st (liftS X.K Wv t)

section
variable {K : PySem.W.Frag} {Wv : WX} {c : Ck} {g : Gh} {env : En} {w : W} {H : Hp} {σ : St}
theorem bindE {t : DTE} {Q : DK} {Qv : VK} (B : Bx K Wv c g env w σ H) (h : t env w Q)
    (k : ∀ v H1 g1 w1 x, g.le g1 → Bx K Wv c g1 env w1 σ H1 → Rep K g1 v x → Q x w1 → Qv v H1) : liftE K Wv t σ H Qv :=
  ⟨c, g, env, w, Q, B, h, fun v H' ⟨g', w', d, l, R', r, q⟩ => k v H' g' w' d l (B.step l R') r q⟩
theorem bindT {t : DTT} {Q : Bool → W → Prop} {Qv : Bool → Hp → Prop} (B : Bx K Wv c g env w σ H) (h : t env w Q)
    (k : ∀ b H1 g1 w1, g.le g1 → Bx K Wv c g1 env w1 σ H1 → Q b w1 → Qv b H1) : liftT K Wv t σ H Qv :=
  ⟨c, g, env, w, Q, B, h, fun v H' ⟨g', w', l, R', q⟩ => k v H' g' w' l (B.step l R') q⟩
theorem bindA {t : DTA} {Q : List D → W → Prop} {Qv : List V → Hp → Prop} (B : Bx K Wv c g env w σ H) (h : t env w Q)
    (k : ∀ vs H1 g1 w1 xs, g.le g1 → Bx K Wv c g1 env w1 σ H1 → RepL K g1 vs xs → Q xs w1 → Qv vs H1) : liftA K Wv t σ H Qv :=
  ⟨c, g, env, w, Q, B, h, fun v H' ⟨g', w', d, l, R', r, q⟩ => k v H' g' w' d l (B.step l R') r q⟩
/-- an end within what is known -/
theorem PQ.of {Q : DK} {v : V} {g1 : Gh} {w1 : W} {x : D} {H1 : Hp} (l : g.le g1) (R : Rel K c g1 w1 H1) (r : Rep K g1 v x) (q : Q x w1) : PQ K c g Q v H1 := ⟨g1, w1, x, l, R, r, q⟩
end

/-! ### names, constants -/
def dVar (i : Nat) : DTE := fun env w Q => match env[i]? with
  | some (some d) => Q d w
  | _ => False
def dC (d : D) : DTE := fun _ w Q => Q d w
section
variable {X : Cx} {Wv : WX}
theorem de_c {e : Expr} {v : V} {d : D} (h : PE X e (tC v)) (r : ∀ g, Rep X.K g v d) : DE X Wv e (dC d) := ⟨PE_imp h fun σ H Qv ⟨c, g, env, w, Q, B, q, k⟩ =>
  k v H ⟨g, w, d, .rfl, B.R, r g, q⟩⟩
theorem dv (i : Nat) {x : Str} {pos : Pos} (hN : X.N[i]? = some x := by rfl) (hv : Vis X.env.scope x := by first | exact Or.inl rfl | exact Or.inr (Or.inl rfl) | exact Or.inr (Or.inr rfl)) (hd : (x == ("__debug__" : Str)) = false := by decide)
    (hcd : (x == ("__classdict__" : Str)) = false := by decide) : DE X Wv (.Name x pos) (dVar i) := ⟨PE_imp (pe_var hN hv hd hcd) fun σ H Qv ⟨c, g, env, w, Q, B, q, k⟩ => by
  unfold dVar at q
  split at q
  · rename_i d e
    obtain ⟨v, a, r⟩ := B.E.at_ i d e
    exact ⟨v, a, k v H ⟨g, w, d, .rfl, B.R, r, q⟩⟩
  · exact q.elim⟩
theorem de_int {i : Int} {j pos} : DE X Wv (.Constant (.int i) j pos) (dC (.int i)) := de_c pe_int fun _ => .int i
theorem de_bl {i : Bool} {j pos} : DE X Wv (.Constant (.bool i) j pos) (dC (.bl i)) := de_c pe_bl fun _ => .bl i
theorem de_non {j pos} : DE X Wv (.Constant .none j pos) (dC .non) := de_c pe_non fun _ => .non
theorem de_str {x : Str} {j pos} : DE X Wv (.Constant (.str x) j pos) (dC (.str x)) := de_c pe_str fun _ => .str x
/-- a module's constant -/
theorem de_glob {x : Str} {v : V} {u : Value} {pos : Pos} {d : D} (hg : Gl X x) (hm : X.mg x = some u) (r : RelV v u) (rd : ∀ g, Rep X.K g v d) (hd : (x == ("__debug__" : Str)) = false := by decide) : DE X Wv (.Name x pos) (dC d) := de_c (pe_glob hg hm r hd) rd
theorem de_gstr {x y : Str} {u : Tok} {pos : Pos} (hm : X.mg x = some (.str y u)) (hg : Gl X x := by rfl) (hd : (x == ("__debug__" : Str)) = false := by decide) : DE X Wv (.Name x pos) (dC (.str y)) := de_glob (v := .str y) hg hm ⟨_, rfl⟩ (fun _ => .str y) hd
theorem de_gint {x : Str} {y : Int} {u : Tok} {pos : Pos} (hm : X.mg x = some (.int y u)) (hg : Gl X x := by rfl) (hd : (x == ("__debug__" : Str)) = false := by decide) : DE X Wv (.Name x pos) (dC (.int y)) := de_glob (v := .int y) hg hm ⟨_, rfl⟩ (fun _ => .int y) hd
end

/-! ### operators by values -/
abbrev DR2 := D → D → W → DK → Prop
def OpD (X : Cx) (f : Value → Value → Sem Value) (r : DR2) : Prop :=
  ∃ r0 : R2, OpR X f r0 ∧ ∀ c g w H x y v u Q Qv, Rel X.K c g w H → Rep X.K g v x → Rep X.K g u y → r x y w Q → (∀ v H', PQ X.K c g Q v H' → Qv v H') → r0 v u H Qv
def dOp (r : DR2) (ta tb : DTE) : DTE := fun env w Q => ta env w fun x w1 => tb env w1 fun y w2 => r x y w2 Q
def onBl (d : D) (P : Bool → Prop) : Prop := match d with
  | .bl b => P b
  | _ => False
def dB (t : DTE) : DTT := fun env w Q => t env w fun x w1 => onBl x fun b => Q b w1
section
variable {X : Cx} {Wv : WX} {a b : Expr} {ta tb tc : DTE} {pos : Pos}
theorem dop_lift {r : DR2} {r0 : R2} (imp : ∀ c g w H x y v u Q Qv, Rel X.K c g w H → Rep X.K g v x → Rep X.K g u y → r x y w Q → (∀ v H', PQ X.K c g Q v H' → Qv v H') → r0 v u H Qv)
    {σ : St} {H : Hp} {Qv : VK} (h : liftE X.K Wv (dOp r ta tb) σ H Qv) : tOp r0 (liftE X.K Wv ta) (liftE X.K Wv tb) σ H Qv := by
  obtain ⟨c, g, env, w, Q, B, q, k⟩ := h
  exact bindE B q fun v H1 g1 w1 x l1 B1 r1 q1 => bindE B1 q1 fun u H2 g2 w2 y l2 B2 r2 q2 =>
    imp c g2 w2 H2 x y v u Q Qv B2.R (r1.le l2) r2 q2 fun v H' z => k v H' ((z.up l2).up l1)
theorem de_op {op : Operator} {r : DR2} (ho : OpD X (binaryOp op) r) (ha : DE X Wv a ta) (hb : DE X Wv b tb) : DE X Wv (.BinOp a op b pos) (dOp r ta tb) := by
  obtain ⟨r0, h0, imp⟩ := ho
  exact ⟨PE_imp (pe_op h0 ha.pe hb.pe) fun σ H Qv h => dop_lift imp h⟩
theorem de_cmp {op : CmpOp} {r : DR2} (ho : OpD X (compareOp op) r) (ha : DE X Wv a ta) (hb : DE X Wv b tb) (hm : behindInMarks op b = false := by first | exact nomark _ | rfl) : DE X Wv (.Compare a [op] [b] pos) (dOp r ta tb) := by
  obtain ⟨r0, h0, imp⟩ := ho
  exact ⟨PE_imp (pe_cmpR h0 ha.pe hb.pe hm) fun σ H Qv h => dop_lift imp h⟩
theorem dt_cmp {op : CmpOp} {r : DR2} (ho : OpD X (compareOp op) r) (ha : DE X Wv a ta) (hb : DE X Wv b tb) (hm : behindInMarks op b = false := by first | exact nomark _ | rfl) : DT X Wv (.Compare a [op] [b] pos) (dB (dOp r ta tb)) := by
  obtain ⟨r0, h0, imp⟩ := ho
  refine ⟨PT_imp (pt_cmpR h0 ha.pe hb.pe hm) fun σ H Qv h => ?_⟩
  obtain ⟨c, g, env, w, Q, B, q, k⟩ := h
  refine dop_lift imp (Qv := fun x H' => ∃ k, x = .bl k ∧ Qv k H') ⟨c, g, env, w, fun x w1 => onBl x fun b => Q b w1, B, q, fun v H' ⟨g', w', d, l, R', r', q'⟩ => ?_⟩
  cases r' with
  | bl z => exact ⟨z, rfl, k z H' ⟨g', w', l, R', q'⟩⟩
  | _ => exact False.elim q'
/-- an expression that gives a bool, as a test -/
theorem dt_val {e : Expr} {t : DTE} (h : DE X Wv e t) (he : ∀ whole, isTrue e X.env whole = (do let v ← whole; standAt e.pos; holding [v] (truthy v)) := by intro _; rfl) : DT X Wv e (dB t) := by
  refine ⟨PT_imp (pt_val h.pe he) fun σ H Qv h => ?_⟩
  obtain ⟨c, g, env, w, Q, B, q, k⟩ := h
  refine bindE B q fun v H1 g1 w1 x l1 B1 r1 q1 => ?_
  cases r1 with
  | bl z => exact ⟨z, rfl, k z H1 ⟨g1, w1, l1, B1.R, q1⟩⟩
  | _ => exact False.elim q1
def dChain (r r' : DR2) (ta tb tc : DTE) : DTE := fun env w Q => ta env w fun x w1 => tb env w1 fun y w2 => r x y w2 fun z w3 => onBl z fun k => if k = true then tc env w3 fun u w4 => r' y u w4 Q else Q (.bl false) w3
end
section
variable {X : Cx} {Wv : WX} {a b : Expr} {rest : List Expr} {tA tB : DTT} {ta tb : DTE} {pos : Pos}
def dAnd (t u : DTT) : DTT := fun env w Q => t env w fun b w1 => if b = true then u env w1 Q else Q false w1
def dOr (t u : DTT) : DTT := fun env w Q => t env w fun b w1 => if b = true then Q true w1 else u env w1 Q
def dNot (t : DTT) : DTT := fun env w Q => t env w fun b w1 => Q (!b) w1
def dIf (t : DTT) (ta tb : DTE) : DTE := fun env w Q => t env w fun b w1 => if b = true then ta env w1 Q else tb env w1 Q
theorem dw_and1 (h : DT X Wv a tA) : DW X Wv (.BoolOp .And [a] pos) tA := ⟨pw_and1 h.pt⟩
theorem dw_or1 (h : DT X Wv a tA) : DW X Wv (.BoolOp .Or [a] pos) tA := ⟨pw_or1 h.pt⟩
theorem dw_and (ha : DT X Wv a tA) (hb : DW X Wv (.BoolOp .And (b :: rest) pos) tB) : DW X Wv (.BoolOp .And (a :: b :: rest) pos) (dAnd tA tB) := by
  refine ⟨PW_imp (pw_and ha.pt hb.pw) fun σ H Qv ⟨c, g, env, w, Q, B, q, k⟩ => ?_⟩
  refine bindT B q fun z H1 g1 w1 l1 B1 q1 => ?_
  cases z with
  | true => exact iteT (bindT B1 q1 fun z H2 g2 w2 l2 B2 q2 => k z H2 ⟨g2, w2, l1.trans l2, B2.R, q2⟩)
  | false => exact iteF (k false H1 ⟨g1, w1, l1, B1.R, q1⟩)
theorem dw_or (ha : DT X Wv a tA) (hb : DW X Wv (.BoolOp .Or (b :: rest) pos) tB) : DW X Wv (.BoolOp .Or (a :: b :: rest) pos) (dOr tA tB) := by
  refine ⟨PW_imp (pw_or ha.pt hb.pw) fun σ H Qv ⟨c, g, env, w, Q, B, q, k⟩ => ?_⟩
  refine bindT B q fun z H1 g1 w1 l1 B1 q1 => ?_
  cases z with
  | true => exact iteT (k true H1 ⟨g1, w1, l1, B1.R, q1⟩)
  | false => exact iteF (bindT B1 q1 fun z H2 g2 w2 l2 B2 q2 => k z H2 ⟨g2, w2, l1.trans l2, B2.R, q2⟩)
theorem dt_w (h : DW X Wv a tA) : DT X Wv a tA := ⟨h.pw.pt⟩
theorem dt_not (h : DT X Wv a tA) : DT X Wv (.UnaryOp .Not a pos) (dNot tA) :=
  ⟨PT_imp (pt_not h.pt) fun σ H Qv ⟨c, g, env, w, Q, B, q, k⟩ => bindT B q fun z H1 g1 w1 l1 B1 q1 => k (!z) H1 ⟨g1, w1, l1, B1.R, q1⟩⟩
theorem de_if {c : Expr} (hc : DT X Wv c tA) (ha : DE X Wv a ta) (hb : DE X Wv b tb) : DE X Wv (.IfExp c a b pos) (dIf tA ta tb) := by
  refine ⟨PE_imp (pe_ifExp hc.pt ha.pe hb.pe) fun σ H Qv ⟨c, g, env, w, Q, B, q, k⟩ => ?_⟩
  refine bindT B q fun z H1 g1 w1 l1 B1 q1 => ?_
  cases z with
  | true => exact iteT (bindE B1 q1 fun v H2 g2 w2 x l2 B2 r2 q2 => k v H2 ⟨g2, w2, x, l1.trans l2, B2.R, r2, q2⟩)
  | false => exact iteF (bindE B1 q1 fun v H2 g2 w2 x l2 B2 r2 q2 => k v H2 ⟨g2, w2, x, l1.trans l2, B2.R, r2, q2⟩)
/-! bools as values -/
def dAndV (t u : DTE) : DTE := fun env w Q => t env w fun x w1 => onBl x fun b => if b = true then u env w1 Q else Q (.bl false) w1
def dOrV (t u : DTE) : DTE := fun env w Q => t env w fun x w1 => onBl x fun b => if b = true then Q (.bl true) w1 else u env w1 Q
def dNotV (t : DTE) : DTE := fun env w Q => t env w fun x w1 => onBl x fun b => Q (.bl (!b)) w1
theorem de_one {op} {t : DTE} (h : DE X Wv a t) : DE X Wv (.BoolOp op [a] pos) t := ⟨pe_one h.pe⟩
theorem de_and (ha : DE X Wv a ta) (hb : DE X Wv (.BoolOp .And (b :: rest) pos) tb) : DE X Wv (.BoolOp .And (a :: b :: rest) pos) (dAndV ta tb) := by
  refine ⟨PE_imp (pe_and ha.pe hb.pe) fun σ H Qv ⟨c, g, env, w, Q, B, q, k⟩ => ?_⟩
  refine bindE B q fun v H1 g1 w1 x l1 B1 r1 q1 => ?_
  cases r1 with
  | bl z =>
    refine ⟨z, rfl, ?_⟩
    have q1 : if z = true then tb env w1 Q else Q (.bl false) w1 := q1
    cases z with
    | true => exact iteT (bindE B1 (by simpa using q1) fun v H2 g2 w2 x l2 B2 r2 q2 => k v H2 ⟨g2, w2, x, l1.trans l2, B2.R, r2, q2⟩)
    | false => exact iteF (k _ H1 ⟨g1, w1, .bl false, l1, B1.R, .bl false, by simpa using q1⟩)
  | _ => exact False.elim q1
theorem de_or (ha : DE X Wv a ta) (hb : DE X Wv (.BoolOp .Or (b :: rest) pos) tb) : DE X Wv (.BoolOp .Or (a :: b :: rest) pos) (dOrV ta tb) := by
  refine ⟨PE_imp (pe_or ha.pe hb.pe) fun σ H Qv ⟨c, g, env, w, Q, B, q, k⟩ => ?_⟩
  refine bindE B q fun v H1 g1 w1 x l1 B1 r1 q1 => ?_
  cases r1 with
  | bl z =>
    refine ⟨z, rfl, ?_⟩
    have q1 : if z = true then Q (.bl true) w1 else tb env w1 Q := q1
    cases z with
    | false => exact iteF (bindE B1 (by simpa using q1) fun v H2 g2 w2 x l2 B2 r2 q2 => k v H2 ⟨g2, w2, x, l1.trans l2, B2.R, r2, q2⟩)
    | true => exact iteT (k _ H1 ⟨g1, w1, .bl true, l1, B1.R, .bl true, by simpa using q1⟩)
  | _ => exact False.elim q1
theorem de_not (ha : DE X Wv a ta) : DE X Wv (.UnaryOp .Not a pos) (dNotV ta) := by
  refine ⟨PE_imp (pe_not ha.pe) fun σ H Qv ⟨c, g, env, w, Q, B, q, k⟩ => ?_⟩
  refine bindE B q fun v H1 g1 w1 x l1 B1 r1 q1 => ?_
  cases r1 with
  | bl z => exact ⟨z, rfl, k _ H1 ⟨g1, w1, .bl (!z), l1, B1.R, .bl (!z), q1⟩⟩
  | _ => exact False.elim q1
end

/-! ### chains -/
section
variable {X : Cx} {Wv : WX} {a b c : Expr} {ta tb tc : DTE} {pos : Pos}
theorem chain_lift {r r' : DR2} {r0 r0' : R2} (imp : ∀ c g w H x y v u Q Qv, Rel X.K c g w H → Rep X.K g v x → Rep X.K g u y → r x y w Q → (∀ v H', PQ X.K c g Q v H' → Qv v H') → r0 v u H Qv)
    (imp' : ∀ c g w H x y v u Q Qv, Rel X.K c g w H → Rep X.K g v x → Rep X.K g u y → r' x y w Q → (∀ v H', PQ X.K c g Q v H' → Qv v H') → r0' v u H Qv)
    {σ : St} {H : Hp} {Qv : VK} (h : liftE X.K Wv (dChain r r' ta tb tc) σ H Qv) : tChain r0 r0' (liftE X.K Wv ta) (liftE X.K Wv tb) (liftE X.K Wv tc) σ H Qv := by
  obtain ⟨c, g, env, w, Q, B, q, k⟩ := h
  refine bindE B q fun v H1 g1 w1 x l1 B1 r1 q1 => bindE B1 q1 fun u H2 g2 w2 y l2 B2 r2 q2 => ?_
  refine imp c g2 w2 H2 x y v u _ _ B2.R (r1.le l2) r2 q2 fun z H3 ⟨g3, w3, d, l3, R3, rd, q3⟩ => ?_
  cases rd with
  | bl z =>
    refine ⟨z, rfl, ?_⟩
    have q3 : if z = true then tc env w3 (fun u w4 => r' y u w4 Q) else Q (.bl false) w3 := q3
    cases z with
    | true =>
      refine iteT (bindE (B2.step l3 R3) (by simpa using q3) fun v4 H4 g4 w4 x4 l4 B4 r4 q4 => ?_)
      exact imp' c g4 w4 H4 y x4 u v4 Q Qv B4.R (r2.le (l3.trans l4)) r4 q4 fun v H' z => k v H' ((((z.up l4).up l3).up l2).up l1)
    | false => exact iteF (k _ H3 ⟨g3, w3, .bl false, (l1.trans l2).trans l3, R3, .bl false, by simpa using q3⟩)
  | _ => exact False.elim q3
theorem de_chain {op op' : CmpOp} {r r' : DR2} (ho : OpD X (compareOp op) r) (ho' : OpD X (compareOp op') r') (ha : DE X Wv a ta) (hb : DE X Wv b tb) (hc : DE X Wv c tc)
    (hm : lastMarks [op, op'] [b, c] = false := by with_unfolding_all rfl) : DE X Wv (.Compare a [op, op'] [b, c] pos) (dChain r r' ta tb tc) := by
  obtain ⟨r0, h0, imp⟩ := ho
  obtain ⟨r0', h0', imp'⟩ := ho'
  exact ⟨PE_imp (pe_chain h0 h0' ha.pe hb.pe hc.pe hm) fun σ H Qv h => chain_lift imp imp' h⟩
theorem dt_chain {op op' : CmpOp} {r r' : DR2} (ho : OpD X (compareOp op) r) (ho' : OpD X (compareOp op') r') (ha : DE X Wv a ta) (hb : DE X Wv b tb) (hc : DE X Wv c tc)
    (hm : lastMarks [op, op'] [b, c] = false := by with_unfolding_all rfl) : DT X Wv (.Compare a [op, op'] [b, c] pos) (dB (dChain r r' ta tb tc)) := by
  obtain ⟨r0, h0, imp⟩ := ho
  obtain ⟨r0', h0', imp'⟩ := ho'
  refine ⟨PT_imp (pt_chain h0 h0' ha.pe hb.pe hc.pe hm) fun σ H Qv h => ?_⟩
  obtain ⟨c, g, env, w, Q, B, q, k⟩ := h
  refine chain_lift imp imp' (Qv := fun x H' => ∃ k, x = .bl k ∧ Qv k H') ⟨c, g, env, w, fun x w1 => onBl x fun b => Q b w1, B, q, fun v H' ⟨g', w', d, l, R', r', q'⟩ => ?_⟩
  cases r' with
  | bl z => exact ⟨z, rfl, k z H' ⟨g', w', l, R', q'⟩⟩
  | _ => exact False.elim q'
end

/-! ### argument lists, displays -/
def dNil : DTA := fun _ w Q => Q [] w
def dCons (t : DTE) (u : DTA) : DTA := fun env w Q => t env w fun x w1 => u env w1 fun xs w2 => Q (x :: xs) w2
def dTup (t : DTA) : DTE := fun env w Q => t env w fun xs w1 => xs.length ≤ sizeLine ∧ Q (.tup xs) w1
def dLst (t : DTA) : DTE := fun env w Q => t env w fun xs w1 => xs.length ≤ sizeLine ∧ Q (.lst xs) w1
/-- a list that will change -/
def dLstM (t : DTA) : DTE := fun env w Q => t env w fun xs w1 => xs.length ≤ sizeLine ∧ ∀ p, w1.m p = none → Q (.ref p) (w1.put p (.lst xs))
section
variable {X : Cx} {Wv : WX} {e : Expr} {es : List Expr} {te : DTE} {t : DTA} {pos : Pos}
theorem da_nil : DA X Wv [] dNil := ⟨PA_imp pa_nil fun σ H Qv ⟨c, g, env, w, Q, B, q, k⟩ => k [] H ⟨g, w, [], .rfl, B.R, .nil, q⟩⟩
theorem da_cons (ha : DE X Wv e te) (hr : DA X Wv es t) (hs : starEach (e :: es) X.env = (false, eval e X.env) :: starEach es X.env := by rfl) : DA X Wv (e :: es) (dCons te t) :=
  ⟨PA_imp (pa_cons ha.pe hr.pa hs) fun σ H Qv ⟨c, g, env, w, Q, B, q, k⟩ => bindE B q fun v H1 g1 w1 x l1 B1 r1 q1 => bindA B1 q1 fun vs H2 g2 w2 xs l2 B2 r2 q2 =>
    k _ H2 ⟨g2, w2, x :: xs, l1.trans l2, B2.R, .cons (r1.le l2) r2, q2⟩⟩
theorem de_tup {x1} (h : DA X Wv es t) : DE X Wv (.Tuple es x1 pos) (dTup t) :=
  ⟨PE_imp (pe_tup h.pa) fun σ H Qv ⟨c, g, env, w, Q, B, q, k⟩ => bindA B q fun vs H1 g1 w1 xs l1 B1 r1 q1 => ⟨by rw [r1.length]; exact q1.1, fun p hp =>
    have l2 := Gh.add_le (o := .tup vs) (B1.R.noG hp)
    k _ _ ⟨_, w1, .tup xs, l1.trans l2, B1.R.alloc hp, .tup (.inl (.inl Gh.add_at)) (r1.le l2), q1.2⟩⟩⟩
theorem de_lst (h : DA X Wv es t) : DE X Wv (.List es pos) (dLst t) :=
  ⟨PE_imp (pe_lst h.pa) fun σ H Qv ⟨c, g, env, w, Q, B, q, k⟩ => bindA B q fun vs H1 g1 w1 xs l1 B1 r1 q1 => ⟨by rw [r1.length]; exact q1.1, fun p hp =>
    have l2 := Gh.add_le (o := .lst vs) (B1.R.noG hp)
    k _ _ ⟨_, w1, .lst xs, l1.trans l2, B1.R.alloc hp, .lst (.inl (.inl Gh.add_at)) (r1.le l2), q1.2⟩⟩⟩
theorem de_lstM (h : DA X Wv es t) : DE X Wv (.List es pos) (dLstM t) :=
  ⟨PE_imp (pe_lst h.pa) fun σ H Qv ⟨c, g, env, w, Q, B, q, k⟩ => bindA B q fun vs H1 g1 w1 xs l1 B1 r1 q1 => ⟨by rw [r1.length]; exact q1.1, fun p hp =>
    k _ _ ⟨g1, _, .ref p, l1, B1.R.allocM hp (.lst r1), .ref p, q1.2 p (B1.R.noM hp)⟩⟩⟩
end

/-! ### a thing that changed is held fast -/
def MO.d (p : Addr) : MO → D
  | .lst xs => .lst xs
  | .dic kvs => .dic kvs
  | .ins C _ fs => .obj C fs
  | .tab _ => .ref p
/-- of an expression's value -/
def dFrz (t : DTE) : DTE := fun env w Q => t env w fun x w1 => match x with
  | .ref p => ∃ m, w1.m p = some m ∧ Q (m.d p) (w1.del p)
  | _ => False
theorem Rel.frz {K : PySem.W.Frag} {c : Ck} {g : Gh} {w : W} {H : Hp} (R : Rel K c g w H) {p : Addr} {m : MO} (h : w.m p = some m) : ∃ g', g.le g' ∧ Rel K c g' (w.del p) H ∧ Rep K g' (.ref p) (m.d p) := by
  obtain ⟨o, r, l, R'⟩ := R.freeze h
  refine ⟨_, l, R', ?_⟩
  cases r with
  | lst r => exact .lst (.inl (.inl Gh.add_at)) (r.le l)
  | dic r => exact .dic Gh.add_at (r.le l)
  | ins k r => exact .obj k Gh.add_at (r.le l)
  | tab _ _ => exact .ref p
theorem de_frz {X : Cx} {Wv : WX} {e : Expr} {t : DTE} (h : DE X Wv e t) : DE X Wv e (dFrz t) :=
  ⟨PE_imp h.pe fun σ H Qv ⟨c, g, env, w, Q, B, q, k⟩ => bindE B q fun v H1 g1 w1 x l1 B1 r1 q1 => by
    cases r1 with
    | ref p =>
      obtain ⟨m, e, q1⟩ := (show ∃ m, w1.m p = some m ∧ Q (m.d p) (w1.del p) from q1)
      obtain ⟨g2, l2, R2, r2⟩ := B1.R.frz e
      exact k _ _ ⟨g2, _, _, l1.trans l2, R2, r2, q1⟩
    | _ => exact False.elim q1⟩
/-- the thing in a slot, ahead of a statement -/
def dFrzS (i : Nat) (t : DTS) : DTS := fun D env w => ∃ p m, env[i]? = some (some (.ref p)) ∧ w.m p = some m ∧ t D (env.set i (some (m.d p))) (w.del p)
theorem frzS_lift {K : PySem.W.Frag} {Wv : WX} {i : Nat} {t : DTS} {Dv : Ends} {σ : St} {H : Hp} (h : liftS K Wv (dFrzS i t) Dv σ H) : liftS K Wv t Dv σ H := by
  obtain ⟨c, g, env, w, D, B, ⟨p, m, e, em, q⟩, k⟩ := h
  obtain ⟨g2, l2, R2, r2⟩ := B.R.frz em
  refine ⟨c, g2, _, _, D, (B.step l2 R2).env ((B.E.le l2).tell (fun v hv => ?_) e), q, k.up l2⟩
  obtain ⟨v', a, r⟩ := B.E.at_ i _ e
  rw [hv] at a; cases a
  cases r
  exact r2
theorem ds_frz {X : Cx} {Wv : WX} {st : Stmt} {t : DTS} (i : Nat) (h : DS X Wv st t) : DS X Wv st (dFrzS i t) := ⟨PS_imp h.ps fun _ _ _ q => frzS_lift q⟩
theorem dss_frz {X : Cx} {Wv : WX} {st : List Stmt} {t : DTS} (i : Nat) (h : DSs X Wv st t) : DSs X Wv st (dFrzS i t) := ⟨PSs_imp h.ps fun _ _ _ q => frzS_lift q⟩

/-! ### blocks and small statements -/
def dNext : DTS := fun D env w => D.nx env w
def dSeq (t u : DTS) : DTS := fun D env w => t { D with nx := u D } env w
def dDrop (t : DTE) : DTS := fun D env w => t env w fun _ w1 => D.nx env w1
def dRet (t : DTE) : DTS := fun D env w => t env w D.rt
def dRetN : DTS := fun D _ w => D.rt .non w
def dIfS (t : DTT) (a b : DTS) : DTS := fun D env w => t env w fun z w1 => if z = true then a D env w1 else b D env w1
def dSet (i : Nat) (t : DTE) : DTS := fun D env w => t env w fun x w1 => D.nx (env.set i (some x)) w1
def dBreak : DTS := fun D env w => D.bk env w
def dCont : DTS := fun D env w => D.ct env w
def dNever : DTS := fun _ _ _ => False
section
variable {X : Cx} {Wv : WX} {st : Stmt} {rest : List Stmt} {t u : DTS} {e : Expr} {te : DTE} {pos : Pos}
theorem dss_nil : DSs X Wv [] dNext := ⟨PSs_imp pss_nil fun Dv σ H ⟨c, g, env, w, D, B, q, k⟩ => k.nx env w σ H g .rfl B q⟩
theorem dss_cons (h1 : DS X Wv st t) (h2 : DSs X Wv rest u) : DSs X Wv (st :: rest) (dSeq t u) :=
  ⟨PSs_imp (pss_cons h1.ps h2.ps) fun Dv σ H ⟨c, g, env, w, D, B, q, k⟩ =>
    ⟨c, g, env, w, { D with nx := u D }, B, q, ⟨fun env1 w1 σ1 H1 g1 l1 B1 q1 => ⟨c, g1, env1, w1, D, B1, q1, k.up l1⟩, k.rt, k.bk, k.ct⟩⟩⟩
theorem dss_one (h1 : DS X Wv st t) : DSs X Wv [st] t := ⟨pss_one h1.ps⟩
theorem ds_pass : DS X Wv (.Pass pos) dNext := ⟨PS_imp ps_pass fun Dv σ H ⟨c, g, env, w, D, B, q, k⟩ => k.nx env w σ H g .rfl B q⟩
theorem ds_break : DS X Wv (.Break pos) dBreak := ⟨PS_imp ps_break fun Dv σ H ⟨c, g, env, w, D, B, q, k⟩ => k.bk env w σ H g .rfl B q⟩
theorem ds_cont : DS X Wv (.Continue pos) dCont := ⟨PS_imp ps_continue fun Dv σ H ⟨c, g, env, w, D, B, q, k⟩ => k.ct env w σ H g .rfl B q⟩
theorem ds_expr (he : DE X Wv e te) (hs : swapsWith e none pos.line X.env = pure false := by rfl) : DS X Wv (.Expr e pos) (dDrop te) :=
  ⟨PS_imp (ps_expr he.pe hs) fun Dv σ H ⟨c, g, env, w, D, B, q, k⟩ => bindE B q fun v H1 g1 w1 x l1 B1 r1 q1 => k.nx env w1 σ H1 g1 l1 B1 q1⟩
theorem ds_ret (he : DE X Wv e te) : DS X Wv (.Return (some e) pos) (dRet te) :=
  ⟨PS_imp (ps_ret he.pe) fun Dv σ H ⟨c, g, env, w, D, B, q, k⟩ => bindE B q fun v H1 g1 w1 x l1 B1 r1 q1 => k.rt v H1 ⟨g1, w1, x, l1, B1.R, r1, q1⟩⟩
theorem ds_retN : DS X Wv (.Return none pos) dRetN := ⟨PS_imp ps_retN fun Dv σ H ⟨c, g, env, w, D, B, q, k⟩ => k.rt .non H ⟨g, w, .non, .rfl, B.R, .non, q⟩⟩
theorem ds_if {c : Expr} {a b : List Stmt} {tc : DTT} (hc : DT X Wv c tc) (ha : DSs X Wv a t) (hb : DSs X Wv b u) : DS X Wv (.If c a b pos) (dIfS tc t u) :=
  ⟨PS_imp (ps_if hc.pt ha.ps hb.ps) fun Dv σ H ⟨c, g, env, w, D, B, q, k⟩ => bindT B q fun z H1 g1 w1 l1 B1 q1 => by
    cases z with
    | true => exact iteT ⟨c, g1, env, w1, D, B1, q1, k.up l1⟩
    | false => exact iteF ⟨c, g1, env, w1, D, B1, q1, k.up l1⟩⟩
theorem ds_set {i : Nat} {x : Str} {pos' : Pos} (hN : X.N.Nodup) (he : DE X Wv e te) (hi : X.N[i]? = some x := by rfl) (hx : Loc X.env.scope x := by first | exact Or.inl rfl | exact Or.inr rfl) (hs : swapsWith e (some (.Name x pos')) pos.line X.env = pure false := by rfl) (hf : X.fn x = true ∨ X.env.scope.names.lookup x = some .local := by first | exact .inl rfl | exact .inr rfl | assumption) :
    DS X Wv (.Assign [.Name x pos'] e pos) (dSet i te) :=
  ⟨PS_imp (ps_set hN hi hx he.pe hs hf) fun Dv σ H ⟨c, g, env, w, D, B, q, k⟩ => bindE B q fun v H1 g1 w1 x l1 B1 r1 q1 => k.nx _ w1 _ H1 g1 l1 (B1.env (B1.E.set r1)) q1⟩
theorem ds_never : DS X Wv st dNever := ⟨PS_imp ps_never fun Dv σ H ⟨c, g, env, w, D, B, q, k⟩ => q⟩
theorem dss_never {sts : List Stmt} : DSs X Wv sts dNever := ⟨PSs_imp pss_never fun Dv σ H ⟨c, g, env, w, D, B, q, k⟩ => q⟩
end
end DL

/-! DLc: promises over trees; calls; loops; comprehensions. -/
namespace DL
open PySem PySem.Spec PyProof.Rows L2

/-! ### defs that run where nothing is being shown -/
structure FnG (P : Program) (w : World) (K : PySem.W.Frag) (mg : Str → Option Value) (base : Heap) (k : Nat) (f : Addr) (fd : FuncData) (ps : List Str) (sp : Sp) : Prop where
  len : ∀ vs H Q E, sp vs H Q E → vs.length = ps.length
  run : ∀ (A : Around) (outer : List Env) (s : Shared) (H : Hp) (args : Args) (us : List Value) (vs : List V) (Q : VK) (E : XK), Room k A → A.guards = some [] → Env0 P w K mg base A outer s H →
    BindsTo s fd args (ps.zip us) → Vals vs us → sp vs H Q E → codeAny (model P w) A (.call (.ref f) args) (CR (L2.CX P w) outer P w H s Q E) s
section
variable {P : Program} {w : World} {K : PySem.W.Frag} {mg : Str → Option Value} {base : Heap}
theorem FnG.mono {j k : Nat} {f : Addr} {fd : FuncData} {ps : List Str} {sp : Sp} (F : FnG P w K mg base j f fd ps sp) (h : j ≤ k) : FnG P w K mg base k f fd ps sp :=
  ⟨F.len, fun A o s H a us vs Q E hr => F.run A o s H a us vs Q E (hr.mono h)⟩
theorem FnG.imp {k : Nat} {f : Addr} {fd : FuncData} {ps : List Str} {sp sp' : Sp} (F : FnG P w K mg base k f fd ps sp) (h : ∀ vs H Q E, sp' vs H Q E → sp vs H Q E) : FnG P w K mg base k f fd ps sp' :=
  ⟨fun vs H Q E q => F.len vs H Q E (h _ _ _ _ q), fun A o s H a us vs Q E hr hg he hb hv hs => F.run A o s H a us vs Q E hr hg he hb hv (h _ _ _ _ hs)⟩
theorem fnG_of {x qual : Str} {st : Stmt} {f : Addr} {fd : FuncData} {N ps : List Str} {k : Nat} {sp : Sp} (F : Fun K x qual st f fd) (S : FnScope N ps (defScope st)) (len : ∀ vs H Q E, sp vs H Q E → vs.length = ps.length)
    (hbody : ∀ (cdv : Value) (A : Around) (outer : List Env) (s : Shared) (H : Hp) (vs : List V) (Q : VK) (E : XK), Room k (A.deeper (envOfC qual (defScope st) s.heap.objs.size f cdv)) → A.guards = some [] → sp vs H Q E →
      ∃ t, PSs (cxOf (L2.CX P w) P w K mg base N qual (defScope st) f cdv A outer s H E) (defBody st) t ∧ t { nx := fun _ H' => Q .non H', rt := Q } (start N vs) H) : FnG P w K mg base (k + 1) f fd ps sp := by
  obtain ⟨oc, od, kV, doc, pm, an, cdv, ct, osl, rfl, lk, hcd⟩ := F.ex
  refine ⟨len, fun A outer s H args us vs Q E hr hgd e0 hb r q0 => ?_⟩
  have hl := len _ _ _ _ q0
  have kin : K.In s.heap := e0.mod.kin.keeps fun b o e => (e0.bs b o e).1
  have nolim : s.heap.NoLimit := e0.mod.nolimit.keeps fun b o e => (e0.bs b o e).1
  refine codeAny_call_function hr.depth (kin _ _ lk) rfl S.co S.gen rfl (PySem.W.codeRec_of kin hcd) (hb _ _ _ _ ?_)
  refine wpAny_newFunctionEnv_cells S.kind (fun y hy => ?_) fun env he s1 x => ?_
  · obtain ⟨n, v⟩ := y
    cases S.par n (List.of_mem_zip hy).1 with
    | inl q => exact .inl q
    | inr q => exact .inr ⟨q, PySem.W.cellsFrom_some _ _ _ (.inl q)⟩
  · subst he
    refine ⟨nolim.keeps x.toInCall.keep, codeAny_func ?_⟩
    obtain ⟨t, ht, hq⟩ := hbody cdv A outer s H vs Q E (hr.deeper _) hgd q0
    have J := inv_start (CX := L2.CX P w) (P := P) (w := w) (qual := qual) (f := f) (cd := cdv) (E := E) S hr.hd e0 hl r x
    refine wpAny_mono (ht.run [] s1 _ H _ J hq) (fun fl s' hs => ?_) fun e s' hs => hs
    have fin : ∀ {σ' : St} {H' : Hp} {v : V} {u : Value}, Inv (cxOf (L2.CX P w) P w K mg base N qual (defScope st) f cdv A outer s H E) [] σ' H' s' → RelV v u → Q v H' → CE outer P w H s Q u s' :=
      fun {_ H' v _} J rv q => ⟨v, H', J.os, J.bare, J.base, J.hok, rv, q⟩
    cases fl with
    | ret u =>
      obtain ⟨v, _, H', J, rv, q⟩ := hs
      exact fin J rv q
    | next =>
      obtain ⟨_, H', J, q⟩ := hs
      exact fin (v := V.non) (u := Value.none) J rfl q
    | brk => exact hs.elim fun _ h => h.elim fun _ h => h.2.elim
    | cont => exact hs.elim fun _ h => h.elim fun _ h => h.2.elim
end

section
variable {X : Cx} {k : Nat} {f C : Addr} {fd : FuncData} {ps : List Str} {sp : Sp} {Wv : WX} {x m : Str} {p pos apos : Pos} {e o : Expr} {es : List Expr} {ta : TE} {t : TA}
theorem runG {pins : List (Addr × Obj)} {σ : St} {H : Hp} {s : Shared} {Q : VK} {us : List Value} {vs : List V} (F : FnG X.prog X.w X.K X.mg X.base k f fd ps sp) (hr : Room k X.A) (hgd : X.A.guards = some []) (hb : Binds X.K fd ps []) (tk : Takes X Wv)
    (I : Inv X pins σ H s) (r : Vals vs us) (h : sp vs H Q (WE Wv σ)) : wpAny (model X.prog X.w) X.A (call (.ref f) us) (EP X pins σ Q) X.xe s := by
  have hl : us.length = ps.length := by
    rw [← r.length]
    exact F.len _ _ _ _ h
  have b := hb s us I.kIn (by rw [List.append_nil]; exact hl)
  rw [List.append_nil] at b
  refine wpAny_call (codeAny_mono (F.run X.A X.stack s H _ us vs Q _ hr hgd I.env0 b r h) fun r s' hq => ?_)
  match r, hq with
  | .error e, hq => exact passAt tk σ pins H s e s' I hq
  | .ok (.ret u), hq => exact I.after hq
/-- a promise over a call's arguments -/
def tCallG (sp : Sp) (Wv : WX) (t : TA) : TE := fun σ H Q => t σ H fun vs H1 => sp vs H1 Q (WE Wv σ)
theorem peG_call (F : FnG X.prog X.w X.K X.mg X.base k f fd ps sp) (hr : Room k X.A) (hgd : X.A.guards = some []) (hg : Gl X x) (hm : X.mg x = some (.ref f)) (hk : PySem.W.keepIn X.K (.ref f) = true) (hb : Binds X.K fd ps []) (tk : Takes X Wv)
    (ha : PA X (e :: es) t) (hdb : (x == ("__debug__" : Str)) = false) (he : starEach (e :: es) X.env = (false, eval e X.env) :: starEach es X.env) (hpl : (backTo pos (starEach es X.env)).any (·.1) = false) :
    PE X (.Call (.Name x p) (e :: es) [] pos) (tCallG sp Wv t) :=
  ⟨fun pins s σ H Q I h => wpAny_Call_Name_kw (ld_glob I hg hm (PySem.W.callWith_K (h₀ := X.base) I.ok.mod.kin hk (thn (ha.run pos pins s σ H _ I h) fun us s1 ⟨vs, H1, I1, r, q⟩ =>
    ⟨I1.kIn, runG F hr hgd hb tk I1 r q⟩) he hpl) hdb)⟩
theorem peG_call0 (F : FnG X.prog X.w X.K X.mg X.base k f fd ps sp) (hr : Room k X.A) (hgd : X.A.guards = some []) (hg : Gl X x) (hm : X.mg x = some (.ref f)) (hk : PySem.W.keepIn X.K (.ref f) = true) (hb : Binds X.K fd ps []) (tk : Takes X Wv)
    (hdb : (x == ("__debug__" : Str)) = false) : PE X (.Call (.Name x p) [] [] pos) (tCallG sp Wv tNil) :=
  ⟨fun pins s σ H Q I h => wpAny_Call_Name_kw (ld_glob I hg hm (PySem.W.callWith_K0 I.kIn hk (runG (us := []) F hr hgd hb tk I .nil h)) hdb)⟩
end

/-! ### promises over trees -/
abbrev DSp := List D → W → DK → Prop
def liftSp (K : PySem.W.Frag) (sp : DSp) : Sp := fun vs H Qv Ev => ∃ c g w ds Q, Rel K c g w H ∧ RepL K g vs ds ∧ sp ds w Q ∧ (∀ v H', PQ K c g Q v H' → Qv v H') ∧ (∀ env, c.e env = c.e []) ∧
  ∀ cls d H' g', g.le g' → PX K c g' (c.e []) cls d H' → Ev cls d H'
/-- a def by its name -/
structure DCal (P : Program) (w : World) (K : PySem.W.Frag) (mg : Str → Option Value) (base : Heap) (k : Nat) (x : Str) (n : Nat) (sp : DSp) : Prop where
  ex : ∃ (f : Addr) (fd : FuncData) (ps : List Str), FnG P w K mg base k f fd ps (liftSp K sp) ∧ mg x = some (.ref f) ∧ PySem.W.keepIn K (.ref f) = true ∧ Binds K fd ps [] ∧ ps.length = n
theorem DCal.mono {P : Program} {w : World} {K : PySem.W.Frag} {mg : Str → Option Value} {base : Heap} {j k : Nat} {x : Str} {n : Nat} {sp : DSp} (c : DCal P w K mg base j x n sp) (h : j ≤ k) : DCal P w K mg base k x n sp :=
  let ⟨f, fd, ps, F, r⟩ := c.ex; ⟨f, fd, ps, F.mono h, r⟩
def dCall (sp : DSp) (t : DTA) : DTE := fun env w Q => t env w fun xs w1 => sp xs (w1.inn env) fun d w2 => Q d (w2.as w1)
theorem Rel.inn {K : PySem.W.Frag} {c : Ck} {g : Gh} {w : W} {H : Hp} (R : Rel K c g w H) (env : En) : Rel K { c with e := fun _ => c.e env } g (w.inn env) H :=
  ⟨R.imm, R.lck, R.mu, R.frm, R.pen, by show (fun _ => w.e env) = fun _ => c.e env; rw [R.ex]⟩
theorem Rel.out {K : PySem.W.Frag} {c c' : Ck} {g : Gh} {w w0 : W} {H : Hp} (R : Rel K c' g w H) (hL : c'.L = c.L) (hF : c'.F = c.F) (h : w0.e = c.e) : Rel K c g (w.as w0) H :=
  ⟨hL ▸ R.imm, hL ▸ R.lck, hF ▸ R.mu, hF ▸ R.frm, R.pen, h⟩
section
variable {X : Cx} {Wv : WX} {k n : Nat} {sp : DSp} {x : Str} {p pos : Pos} {e : Expr} {es : List Expr} {t : DTA}
theorem call_lift {σ : St} {H : Hp} {Qv : VK} (h : liftE X.K Wv (dCall sp t) σ H Qv) : tCallG (liftSp X.K sp) Wv (liftA X.K Wv t) σ H Qv := by
  obtain ⟨c, g, env, w, Q, B, q, kk⟩ := h
  refine bindA B q fun vs H1 g1 w1 xs l1 B1 r1 q1 => ?_
  refine ⟨{ c with e := fun _ => c.e env }, g1, w1.inn env, xs, _, B1.R.inn env, r1, q1, fun v H' ⟨g2, w2, d, l2, R2, r2, q2⟩ => ?_, fun _ => rfl, fun cls d H' g' l' px => ?_⟩
  · exact kk v H' ⟨g2, w2.as w1, d, l1.trans l2, R2.out rfl rfl B1.R.ex, r2, q2⟩
  · refine B1.X env σ H' cls d g' l' (B1.E.le l') ?_
    obtain ⟨g3, w3, C, fs, e1, l3, R3, e3, m3⟩ := px
    exact ⟨g3, w3.as w1, C, fs, e1, l3, R3.out rfl rfl B1.R.ex, e3, m3⟩
/-- f(e, ..) -/
theorem de_call (F : DCal X.prog X.w X.K X.mg X.base k x n sp) (hr : Room k X.A) (hgd : X.A.guards = some []) (tk : Takes X Wv) (ha : DA X Wv (e :: es) t) (hg : Gl X x := by rfl)
    (hdb : (x == ("__debug__" : Str)) = false := by decide) (he : starEach (e :: es) X.env = (false, eval e X.env) :: starEach es X.env := by rfl) (hpl : (backTo pos (starEach es X.env)).any (·.1) = false := by rfl) :
    DE X Wv (.Call (.Name x p) (e :: es) [] pos) (dCall sp t) := by
  obtain ⟨f, fd, ps, F, hm, kp, b, _⟩ := F.ex
  exact ⟨PE_imp (peG_call F hr hgd hg hm kp b tk ha.pa hdb he hpl) fun σ H Qv h => call_lift h⟩
/-- f() -/
theorem de_call0 (F : DCal X.prog X.w X.K X.mg X.base k x n sp) (hr : Room k X.A) (hgd : X.A.guards = some []) (tk : Takes X Wv) (hg : Gl X x := by rfl)
    (hdb : (x == ("__debug__" : Str)) = false := by decide) : DE X Wv (.Call (.Name x p) [] [] pos) (dCall sp dNil) := by
  obtain ⟨f, fd, ps, F, hm, kp, b, _⟩ := F.ex
  refine ⟨PE_imp (peG_call0 F hr hgd hg hm kp b tk hdb) fun σ H Qv h => ?_⟩
  obtain ⟨c, g, env, w, Q, B, q, kk⟩ := h
  refine ⟨{ c with e := fun _ => c.e env }, g, w.inn env, [], _, B.R.inn env, .nil, q, fun v H' ⟨g2, w2, d, l2, R2, r2, q2⟩ => ?_, fun _ => rfl, fun cls d H' g' l' px => ?_⟩
  · exact kk v H' ⟨g2, w2.as w, d, l2, R2.out rfl rfl B.R.ex, r2, q2⟩
  · refine B.X env σ H' cls d g' l' (B.E.le l') ?_
    obtain ⟨g3, w3, C, fs, e1, l3, R3, e3, m3⟩ := px
    exact ⟨g3, w3.as w, C, fs, e1, l3, R3.out rfl rfl B.R.ex, e3, m3⟩
end

/-- the slots at the entry -/
def startD (N : Nat) (ds : List D) : En := ds.map some ++ List.replicate (N - ds.length) none
theorem RepL.env {K : PySem.W.Frag} {g : Gh} {vs : List V} {ds : List D} (r : RepL K g vs ds) (N : List Str) : EnR K g (startD N.length ds) (L2.start N vs) := by
  have hl := r.length
  refine ⟨by unfold startD L2.start; simp [hl], fun i d e => ?_⟩
  unfold startD at e
  unfold L2.start
  by_cases hi : i < ds.length
  · rw [List.getElem?_append_left (by simpa using hi), List.getElem?_map] at e
    rw [List.getElem?_append_left (by simpa [hl] using hi), List.getElem?_map]
    cases q : ds[i]? with
    | none => rw [q] at e; cases e
    | some y =>
      rw [q] at e; cases e
      obtain ⟨u, a, b⟩ := r.get q
      exact ⟨u, by rw [a]; rfl, b⟩
  · rw [List.getElem?_append_right (by simpa using hi), List.getElem?_replicate] at e
    split at e <;> cases e
section
variable {P : Program} {w : World} {K : PySem.W.Frag} {mg : Str → Option Value} {base : Heap}
/-- THE RULE for a def: its body as a term of rules over trees, and the reading of that term -/
theorem dfn {x qual : Str} {st : Stmt} {f : Addr} {fd : FuncData} {N ps : List Str} {k : Nat} {sp : DSp} (F : Fun K x qual st f fd) (S : FnScope N ps (defScope st)) (len : ∀ ds w Q, sp ds w Q → ds.length = ps.length)
    (hbody : ∀ (cdv : Value) (A : Around) (outer : List Env) (s : Shared) (H : Hp) (E : XK), Room k (A.deeper (envOfC qual (defScope st) s.heap.objs.size f cdv)) → A.guards = some [] →
      ∃ t, DSs (cxOf (L2.CX P w) P w K mg base N qual (defScope st) f cdv A outer s H E) (fun cls d _ H => E cls d H) (defBody st) t ∧
        ∀ ds (wd : W) Q, sp ds wd Q → t { nx := fun _ w' => Q .non w', rt := Q } (startD N.length ds) wd) : FnG P w K mg base (k + 1) f fd ps (liftSp K sp) := by
  refine fnG_of F S (fun vs H Q E h => ?_) fun cdv A outer s H vs Q E hr hgd h => ?_
  · obtain ⟨c, g, w, ds, Q0, R, r, h, _⟩ := h
    rw [r.length]
    exact len _ _ _ h
  · obtain ⟨t, ht, hq⟩ := hbody cdv A outer s H E hr hgd
    obtain ⟨c, g, wd, ds, Q0, R, r, h, k1, k3, k2⟩ := h
    refine ⟨_, ht.ps, c, g, _, wd, _, ⟨R, r.env N, fun env' σ' H' cls d g' l' e' px => k2 cls d H' g' l' (k3 env' ▸ px)⟩, hq ds wd Q0 h, ⟨fun env w σ H g' l' B q => ?_, k1, fun env w σ H g' l' B q => q.elim, fun env w σ H g' l' B q => q.elim⟩⟩
    exact k1 .non H ⟨g', w, .non, l', B.R, .non, q⟩
end
end DL

/-! DLd: targets, what is walked, loops, comprehensions, over trees. -/
namespace DL
open PySem PySem.Spec PyProof.Rows L2

/-! ### targets -/
abbrev DTG := D → En → W → (En → W → Prop) → Prop
abbrev DTGs := List D → En → W → (En → W → Prop) → Prop
def SameW (sl : List Nat) (σ σ' : St) : Prop := ∀ vs : List Nat, (∀ i ∈ sl, i ∈ vs) → wipe σ' vs = wipe σ vs
def liftG (K : PySem.W.Frag) (Wv : WX) (sl : List Nat) (gd : DTG) : TG := fun v σ H Qv => ∃ c g env w d Q, Bx K Wv c g env w σ H ∧ Rep K g v d ∧ gd d env w Q ∧
  ∀ env' w' σ' H' g', g.le g' → Bx K Wv c g' env' w' σ' H' → SameW sl σ σ' → Q env' w' → Qv σ' H'
def liftGs (K : PySem.W.Frag) (Wv : WX) (sl : List Nat) (gd : DTGs) : TGs := fun vs σ H Qv => ∃ c g env w ds Q, Bx K Wv c g env w σ H ∧ RepL K g vs ds ∧ gd ds env w Q ∧
  ∀ env' w' σ' H' g', g.le g' → Bx K Wv c g' env' w' σ' H' → SameW sl σ σ' → Q env' w' → Qv σ' H'
structure DG (X : Cx) (Wv : WX) (tg : Expr) (sl : List Nat) (gd : DTG) : Prop where
  pg : PG X tg (liftG X.K Wv sl gd)
structure DGs (X : Cx) (Wv : WX) (ts : List Expr) (sl : List Nat) (gd : DTGs) : Prop where
  pg : PGs X ts (liftGs X.K Wv sl gd)
theorem PG_imp {X : Cx} {e : Expr} {t t' : TG} (h : PG X e t) (i : ∀ v σ H Q, t' v σ H Q → t v σ H Q) : PG X e t' := ⟨fun pins s σ H v u Q I r q => h.run pins s σ H v u Q I r (i v σ H Q q)⟩
theorem PGs_imp {X : Cx} {e : List Expr} {t t' : TGs} (h : PGs X e t) (i : ∀ v σ H Q, t' v σ H Q → t v σ H Q) : PGs X e t' := ⟨fun pins s σ H v u Q I r q => h.run pins s σ H v u Q I r (i v σ H Q q)⟩
theorem PI_imp {X : Cx} {tg e : Expr} {t t' : TI} (h : PI X tg e t) (i : ∀ σ H R, t' σ H R → t σ H R) : PI X tg e t' := ⟨fun pins s σ H R I q => h.run pins s σ H R I (i σ H R q)⟩
theorem wipe_set (σ : St) (i : Nat) (x : Option V) : ∀ vs : List Nat, i ∈ vs → wipe (σ.set i x) vs = wipe σ vs
  | v :: vs, h => by
    unfold wipe
    by_cases e : i ∈ vs
    · rw [wipe_set σ i x vs e]
    · have hv : v = i := (List.mem_cons.mp h).elim (fun z => z.symm) fun z => absurd z e
      subst hv
      have key : ∀ (us : List Nat) (τ : St), (wipe (τ.set v x) us).set v none = (wipe τ us).set v none := by
        intro us
        induction us with
        | nil =>
          intro τ
          show (τ.set v x).set v none = τ.set v none
          rw [List.set_set]
        | cons u us ih =>
          intro τ
          unfold wipe
          by_cases hu : u = v
          · subst hu
            rw [List.set_set, List.set_set]
            exact ih τ
          · rw [List.set_comm _ _ hu, ih τ, List.set_comm _ _ (Ne.symm hu)]
      exact key vs σ
theorem SameW.rfl {sl : List Nat} {σ : St} : SameW sl σ σ := fun _ _ => Eq.refl _
def gdName (i : Nat) : DTG := fun d env w Q => Q (env.set i (some d)) w
def gdNil : DTGs := fun ds env w Q => ds = [] ∧ Q env w
def gdCons (t : DTG) (u : DTGs) : DTGs := fun ds env w Q => match ds with
  | d :: r => t d env w fun env1 w1 => u r env1 w1 Q
  | [] => False
/-- a tuple, or a list, unpacked -/
def gdTup (n : Nat) (t : DTGs) : DTG := fun d env w Q => match d with
  | .tup xs => xs.length = n ∧ t xs env w Q
  | _ => False
section
variable {X : Cx} {Wv : WX} {pos : Pos}
theorem dg_name (i : Nat) {x : Str} (hN : X.N.Nodup) (hi : X.N[i]? = some x := by rfl) (hx : Loc X.env.scope x := by first | exact Or.inl rfl | exact Or.inr rfl) (hf : X.fn x = true ∨ X.env.scope.names.lookup x = some .local := by first | exact .inl rfl | exact .inr rfl | assumption) : DG X Wv (.Name x pos) [i] (gdName i) :=
  ⟨PG_imp (pg_name hN hi hx hf) fun v σ H Qv ⟨c, g, env, w, d, Q, B, r, q, k⟩ => k _ w _ H g .rfl (B.env (B.E.set r)) (fun vs hv => wipe_set σ i _ vs (hv i (by simp))) q⟩
theorem dgs_nil : DGs X Wv [] [] gdNil := ⟨PGs_imp pgs_nil fun v σ H Qv ⟨c, g, env, w, d, Q, B, r, q, k⟩ => by
  obtain ⟨rfl, q⟩ := q
  cases r
  exact ⟨rfl, k _ w _ H g .rfl B .rfl q⟩⟩
theorem dgs_cons {e : Expr} {es : List Expr} {t : DTG} {u : DTGs} {sl sl' : List Nat} (h1 : DG X Wv e sl t) (h2 : DGs X Wv es sl' u)
    (hs : (assignEach (e :: es) X.env).map (·.2) = assign e X.env :: (assignEach es X.env).map (·.2) := by rfl) : DGs X Wv (e :: es) (sl ++ sl') (gdCons t u) :=
  ⟨PGs_imp (pgs_cons h1.pg h2.pg hs) fun v σ H Qv ⟨c, g, env, w, d, Q, B, r, q, k⟩ => by
    cases r with
    | nil => exact q.elim
    | cons a r =>
      refine ⟨_, _, rfl, c, g, env, w, _, _, B, a, q, fun env1 w1 σ1 H1 g1 l1 B1 s1 q1 => ?_⟩
      refine ⟨c, g1, env1, w1, _, Q, B1, r.le l1, q1, fun env2 w2 σ2 H2 g2 l2 B2 s2 q2 => k env2 w2 σ2 H2 g2 (l1.trans l2) B2 (fun vs hv => ?_) q2⟩
      rw [s2 vs fun i hi => hv i (List.mem_append_right _ hi), s1 vs fun i hi => hv i (List.mem_append_left _ hi)]⟩
theorem dg_tup {es : List Expr} {k : Nat} {t : DTGs} {n : Nat} {sl : List Nat} (hc : X.calm = true) (h : DGs X Wv es sl t) (hn : (assignEach es X.env).length = n := by rfl) (hst : (assignEach es X.env).findIdx? (·.1) = none := by rfl) :
    DG X Wv (.Tuple es k pos) sl (gdTup n t) :=
  ⟨PG_imp (pg_tup hc h.pg hn hst) fun v σ H Qv ⟨c, g, env, w, d, Q, B, r, q, k⟩ => by
    cases r with
    | tup hs r =>
      have q : _ ∧ _ := q
      exact ⟨_, _, rfl, B.R.sqT hs, by rw [r.length]; exact q.1, c, g, env, w, _, Q, B, r, q.2, k⟩
    | _ => exact False.elim q⟩
end
/-- target = value -/
def dAsg (te : DTE) (gd : DTG) : DTS := fun D env w => te env w fun x w1 => gd x env w1 D.nx
theorem ds_asg {X : Cx} {Wv : WX} {tg e : Expr} {te : DTE} {gd : DTG} {sl : List Nat} {pos : Pos} (he : DE X Wv e te) (hg : DG X Wv tg sl gd) (hs : swapsWithSole [tg] e pos.line X.env = pure false := by rfl) (hw : swappedStores [tg] e X.env = pure none := by rfl)
    (h1 : (assignEach [tg] X.env).map (·.2) = [assign tg X.env] := by rfl) : DS X Wv (.Assign [tg] e pos) (dAsg te gd) :=
  ⟨PS_imp (ps_asg he.pe hg.pg hs hw h1) fun Dv σ H ⟨c, g, env, w, D, B, q, k⟩ => bindE B q fun v H1 g1 w1 x l1 B1 r1 q1 =>
    ⟨c, g1, env, w1, x, D.nx, B1, r1, q1, fun env2 w2 σ2 H2 g2 l2 B2 _ q2 => k.nx env2 w2 σ2 H2 g2 (l1.trans l2) B2 q2⟩⟩

/-! ### a dict held fast while it is walked -/
def updL (L : Addr → Option Obj) (d : Addr) (o : Obj) : Addr → Option Obj := fun b => if b = d then some o else L b
theorem updL_same {L : Addr → Option Obj} {d : Addr} {o : Obj} : updL L d o d = some o := if_pos rfl
theorem updL_ne {L : Addr → Option Obj} {d b : Addr} {o : Obj} (h : b ≠ d) : updL L d o b = L b := if_neg h
def NoFz (X : Cx) (d : Addr) : Prop := ∀ o' u', X.H_0 d ≠ some (.frz o' u')
def unlV (X : Cx) (Q : VK) : VK := fun v H => Q v H ∨ ∃ d od u, H d = some (.frz od u) ∧ NoFz X d ∧ Q v (upd H d u)
def unlS (X : Cx) (Q : St → Hp → Prop) : St → Hp → Prop := fun σ H => Q σ H ∨ ∃ d od u, H d = some (.frz od u) ∧ NoFz X d ∧ Q σ (upd H d u)
def unlW (X : Cx) (W : WX) : WX := fun cls dx σ H => W cls dx σ H ∨ ∃ d od u, H d = some (.frz od u) ∧ NoFz X d ∧ W cls dx σ (upd H d u)
section
variable {X : Cx}
theorem pe_unl {e : Expr} {t : TE} (h : PE X e t) : PE X e fun σ H Q => t σ H (unlV X Q) := by
  refine ⟨fun pins s σ H Q I hw => thn (h.run pins s σ H _ I hw) fun v s1 ⟨x, H1, I1, r, q⟩ => ?_⟩
  rcases q with q | ⟨d, od, u, e, nf, q⟩
  · exact ⟨x, H1, I1, r, q⟩
  · exact ⟨x, _, I1.unlock e nf, r, q⟩
theorem pe_lk {e : Expr} {t : TE} (h : PE X e t) : PE X e fun σ H Q => t σ H fun v H1 => Q v H1 ∨ ∃ d u, H1 d = some u ∧ Mut (some u) ∧ ∀ od, NoFz X d → Q v (upd H1 d (.frz od u)) := by
  refine ⟨fun pins s σ H Q I hw => thn (h.run pins s σ H _ I hw) fun v s1 ⟨x, H1, I1, r, q⟩ => ?_⟩
  rcases q with q | ⟨d, u, e, mu, q⟩
  · exact ⟨x, H1, I1, r, q⟩
  · obtain ⟨od, I2⟩ := I1.lock e mu
    exact ⟨x, _, I2, r, q od (I1.nofrz e mu)⟩
theorem ps_unl {st : Stmt} {t : TS} (h : PS X st t) : PS X st fun D σ H => t ⟨unlS X D.nx, unlV X D.rt, unlS X D.bk, unlS X D.ct⟩ σ H := by
  refine ⟨fun pins s σ H D I hw => thn (h.run pins s σ H _ I hw) fun f s1 q => ?_⟩
  have go : ∀ {Q : St → Hp → Prop}, (∃ σ' H', Inv X pins σ' H' s1 ∧ unlS X Q σ' H') → ∃ σ' H', Inv X pins σ' H' s1 ∧ Q σ' H' := fun {Q} ⟨σ', H', I1, q⟩ => by
    rcases q with q | ⟨d, od, u, e, nf, q⟩
    · exact ⟨σ', H', I1, q⟩
    · exact ⟨σ', _, I1.unlock e nf, q⟩
  cases f with
  | next => exact go q
  | brk => exact go q
  | cont => exact go q
  | ret v =>
    obtain ⟨x, σ', H', I1, r, q⟩ := q
    rcases q with q | ⟨d, od, u, e, nf, q⟩
    · exact ⟨x, σ', H', I1, r, q⟩
    · exact ⟨x, σ', _, I1.unlock e nf, r, q⟩
theorem takes_unl {Wv : WX} (t : Takes X Wv) : Takes X (unlW X Wv) := fun u s' ⟨a, B, sI, pins, σ, H, cls, d, e, I, nb, up, sky, na, os, ag, w⟩ => by
  rcases w with w | ⟨dd, od, v, e1, nf, w⟩
  · exact t u s' ⟨a, B, sI, pins, σ, H, cls, d, e, I, nb, up, sky, na, os, ag, w⟩
  · refine t u s' ⟨a, B, sI, pins, σ, _, cls, d, e, I.unlock e1 nf, nb, up, sky, ?_, os, ag, w⟩
    rw [upd_ne (fun z => by rw [z, e1] at na; cases na)]
    exact na
end
section
variable {K : PySem.W.Frag} {c : Ck} {g : Gh} {w : W} {H : Hp} {d : Addr} {od : Obj} {u : List (Key × V)}
def Ck.lk (c : Ck) (d : Addr) (od : Obj) : Ck := { c with L := updL c.L d od }
theorem Rel.lock (R : Rel K c g w H) (hG : g.G d = some (.dK u)) : Rel K (c.lk d od) g w (upd H d (.frz od (.dK u))) := by
  have ne : ∀ {a : Addr}, g.G a = none → a ≠ d := fun {a} e z => by rw [z, hG] at e; cases e
  refine ⟨fun a v e => ?_, fun a o e => ?_, fun a m e => ?_, fun a q e => ?_, fun a e => ?_, R.ex⟩
  · by_cases ha : a = d
    · subst ha
      rw [hG] at e; cases e
      exact .inr ⟨od, updL_same, upd_same⟩
    · rw [upd_ne ha]
      show (updL c.L d od a = none ∧ _) ∨ ∃ o, updL c.L d od a = some o ∧ _
      rw [updL_ne ha]
      exact R.imm a v e
  · by_cases ha : a = d
    · subst ha; exact ⟨_, hG⟩
    · have e' : updL c.L d od a = some o := e
      rw [updL_ne ha] at e'
      exact R.lck a o e'
  · obtain ⟨h1, h2, h3, o, h4, h5⟩ := R.mu a m e
    exact ⟨h1, h2, h3, o, by rw [upd_ne (ne h1)]; exact h4, h5⟩
  · obtain ⟨h1, h2, h3⟩ := R.frm a q e
    exact ⟨by rw [upd_ne (ne h2)]; exact h1, h2, h3⟩
  · obtain ⟨h1, xs, h2, h3⟩ := R.pen a e
    exact ⟨h1, xs, by rw [upd_ne (ne h1)]; exact h2, h3⟩
theorem Rel.unlock (R : Rel K (c.lk d od) g w H) (hL : c.L d = none) (hG : g.G d = some (.dK u)) : H d = some (.frz od (.dK u)) ∧ Rel K c g w (upd H d (.dK u)) := by
  have ne : ∀ {a : Addr}, g.G a = none → a ≠ d := fun {a} e z => by rw [z, hG] at e; cases e
  refine ⟨?_, fun a v e => ?_, fun a o e => ?_, fun a m e => ?_, fun a q e => ?_, fun a e => ?_, R.ex⟩
  · rcases R.imm d _ hG with ⟨h, _⟩ | ⟨o, h, h2⟩
    · have h : updL c.L d od d = none := h
      rw [updL_same] at h; cases h
    · have h : updL c.L d od d = some o := h
      rw [updL_same] at h; cases h
      exact h2
  · by_cases ha : a = d
    · subst ha
      rw [hG] at e; cases e
      exact .inl ⟨hL, upd_same⟩
    · rw [upd_ne ha]
      have q := R.imm a v e
      have q : (updL c.L d od a = none ∧ _) ∨ ∃ o, updL c.L d od a = some o ∧ _ := q
      rw [updL_ne ha] at q
      exact q
  · have ha : a ≠ d := fun z => by rw [z, hL] at e; cases e
    exact R.lck a o (by show updL c.L d od a = some o; rw [updL_ne ha]; exact e)
  · obtain ⟨h1, h2, h3, o, h4, h5⟩ := R.mu a m e
    exact ⟨h1, h2, h3, o, by rw [upd_ne (ne h1)]; exact h4, h5⟩
  · obtain ⟨h1, h2, h3⟩ := R.frm a q e
    exact ⟨by rw [upd_ne (ne h2)]; exact h1, h2, h3⟩
  · obtain ⟨h1, xs, h2, h3⟩ := R.pen a e
    exact ⟨h1, xs, by rw [upd_ne (ne h1)]; exact h2, h3⟩
end
/-- as ahead, but that one more may be held fast -/
def Lk (X : Cx) (c c1 : Ck) (g : Gh) : Prop := c1 = c ∨ ∃ d od u, c.L d = none ∧ g.G d = some (.dK u) ∧ c1 = c.lk d od ∧ NoFz X d
section
variable {X : Cx} {Wv Wv' : WX} {c c1 : Ck} {g g1 g2 : Gh} {env env2 : En} {w w1 w2 : W} {σ σ2 : St} {H H1 H2 : Hp}
theorem Lk.e (lk : Lk X c c1 g) : c1.e = c.e := by
  rcases lk with rfl | ⟨d, od, u, _, _, rfl, _⟩ <;> rfl
theorem Lk.rel (lk : Lk X c c1 g1) (l : g1.le g2) (R : Rel X.K c1 g2 w2 H2) : Rel X.K c g2 w2 H2 ∨ ∃ d od u, H2 d = some (.frz od u) ∧ NoFz X d ∧ Rel X.K c g2 w2 (upd H2 d u) := by
  rcases lk with rfl | ⟨d, od, u, hL, hG, rfl, nf⟩
  · exact .inl R
  · obtain ⟨e, R'⟩ := R.unlock hL (l.G _ _ hG)
    exact .inr ⟨d, od, _, e, nf, R'⟩
theorem Lk.out {Q : DK} {Qv : VK} {v : V} (lk : Lk X c c1 g1) (l0 : g.le g2) (l : g1.le g2) (k : ∀ v H', PQ X.K c g Q v H' → Qv v H') (q : PQ X.K c1 g2 Q v H2) : unlV X Qv v H2 := by
  obtain ⟨g', w', d, l', R', r, q⟩ := q
  rcases lk.rel (l.trans l') R' with R | ⟨d, od, u, e, nf, R⟩
  · exact .inl (k _ _ ⟨g', w', _, l0.trans l', R, r, q⟩)
  · exact .inr ⟨d, od, u, e, nf, k _ _ ⟨g', w', _, l0.trans l', R, r, q⟩⟩
theorem Bx.unlk (B : Bx X.K Wv c g env w σ H) (lk : Lk X c c1 g1) (l0 : g.le g2) (l : g1.le g2) (B2 : Bx X.K Wv' c1 g2 env2 w2 σ2 H2) :
    Bx X.K Wv c g2 env2 w2 σ2 H2 ∨ ∃ d od u, H2 d = some (.frz od u) ∧ NoFz X d ∧ Bx X.K Wv c g2 env2 w2 σ2 (upd H2 d u) := by
  have hX := fun env' σ' H' cls d g' (l2 : g2.le g') => B.X env' σ' H' cls d g' (l0.trans l2)
  rcases lk.rel l B2.R with R | ⟨d, od, u, e, nf, R⟩
  · exact .inl ⟨R, B2.E, hX⟩
  · exact .inr ⟨d, od, u, e, nf, R, B2.E, hX⟩
theorem Bx.lk (B : Bx X.K Wv c g env w σ H) (lk : Lk X c c1 g1) (l : g.le g1) (R : Rel X.K c1 g1 w1 H1) : Bx X.K (unlW X Wv) c1 g1 env w1 σ H1 := by
  refine ⟨R, B.E.le l, fun env' σ' H' cls dx g' l' e' px => ?_⟩
  obtain ⟨g3, w3, C, fs, e1, l3, R3, e3, m3⟩ := px
  rw [lk.e] at e3
  have key : ∀ {H4 : Hp}, Rel X.K c g3 w3 H4 → Wv cls dx σ' H4 := fun {H4} R4 =>
    B.X env' σ' H4 cls dx g' (l.trans l') e' ⟨g3, w3, C, fs, e1, l3, R4, e3, m3⟩
  rcases lk.rel (l'.trans l3) R3 with R4 | ⟨d, od, u, e, nf, R4⟩
  · exact .inl (key R4)
  · exact .inr ⟨d, od, u, e, nf, key R4⟩
theorem Lk.outS {Q : En → W → Prop} {Qs : St → Hp → Prop} (B : Bx X.K Wv c g env w σ H) (lk : Lk X c c1 g1) (l0 : g.le g2) (l : g1.le g2) (B2 : Bx X.K Wv' c1 g2 env2 w2 σ2 H2) (k : ∀ env w σ H g', g.le g' → Bx X.K Wv c g' env w σ H → Q env w → Qs σ H) (q : Q env2 w2) : unlS X Qs σ2 H2 :=
  (B.unlk lk l0 l B2).elim (fun b => .inl (k _ _ _ _ _ l0 b q)) fun ⟨d, od, u, e, nf, b⟩ => .inr ⟨d, od, u, e, nf, k _ _ _ _ _ l0 b q⟩
end

/-! ### what is walked -/
structure IsIt (K : PySem.W.Frag) (L : Addr → Option Obj) (g0 : Gh) (items : List D) (J : It) : Prop where
  go : ∀ c i w H g, c.L = L → g0.le g → Rel K c g w H → i < items.length → J.go i H
  yld : ∀ c i w H g x H' d, c.L = L → g0.le g → Rel K c g w H → items[i]? = some d → J.yld i H x H' → ∃ g', g.le g' ∧ Rel K c g' w H' ∧ Rep K g' x d ∧ (∀ a o, H a = some o → H' a = some o)
  stop : ∀ c w H g, c.L = L → g0.le g → Rel K c g w H → J.stop items.length H
abbrev DTI := En → W → (List D → W → Prop) → Prop
def liftI (X : Cx) (Wv : WX) (ti : DTI) : TI := fun σ H Rv => ∃ c g env w Q, Bx X.K Wv c g env w σ H ∧ ti env w Q ∧
  ∀ items w1 H1 g1 J c1, g.le g1 → Lk X c c1 g1 → Rel X.K c1 g1 w1 H1 → IsIt X.K c1.L g1 items J → Q items w1 → Rv J H1
structure DI (X : Cx) (Wv : WX) (tg iter : Expr) (ti : DTI) : Prop where
  pi : PI X tg iter (liftI X Wv ti)
def dItL (t : DTE) : DTI := fun env w Q => t env w fun x w1 => match x with
  | .lst xs => Q xs w1
  | _ => False
def dItT (t : DTE) : DTI := fun env w Q => t env w fun x w1 => match x with
  | .tup xs => Q xs w1
  | _ => False
def signs (x : Str) : List D := x.cps.toList.map fun c => .str ⟨#[c]⟩
def dItS (t : DTE) : DTI := fun env w Q => t env w fun x w1 => match x with
  | .str x => Q (signs x) w1
  | _ => False
def rangeD (lo : Int) (n : Nat) : List D := (List.range n).map fun (i : Nat) => .int (lo + (i : Int))
def dRng1 (t : DTA) : DTI := fun env w Q => t env w fun xs w1 => match xs with
  | [.int j] => -(2 ^ 62) ≤ j ∧ j < 2 ^ 62 ∧ Q (rangeD 0 j.toNat) w1
  | _ => False
def dRng2 (t : DTA) : DTI := fun env w Q => t env w fun xs w1 => match xs with
  | [.int i, .int j] => (-(2 ^ 62) ≤ i ∧ i < 2 ^ 62 ∧ -(2 ^ 62) ≤ j ∧ j < 2 ^ 62) ∧ Q (rangeD i (j - i).toNat) w1
  | _ => False
theorem isIt_list {K : PySem.W.Frag} {L : Addr → Option Obj} {g : Gh} {a : Addr} {xs : List V} {ds : List D} (s : SqL K g.G a xs) (r : RepL K g xs ds) : IsIt K L g ds (Itl K a) where
  go := fun c i w H g' _ l R hi => by
    have hx : i < xs.length := by rw [r.length]; exact hi
    exact ⟨xs, xs[i], R.sqL (SqL_le l s), by simp [hx]⟩
  yld := fun c i w H g' x H' d _ l R hd ⟨e, y⟩ => by
    subst e
    have h1 := y xs (R.sqL (SqL_le l s))
    obtain ⟨u, a, b⟩ := r.get hd
    rw [h1] at a; cases a
    exact ⟨g', .rfl, R, b.le l, fun _ _ z => z⟩
  stop := fun c w H g' _ l R => ⟨xs, R.sqL (SqL_le l s), by rw [r.length]; exact Nat.le_refl _⟩
theorem isIt_tup {K : PySem.W.Frag} {L : Addr → Option Obj} {g : Gh} {a : Addr} {xs : List V} {ds : List D} (s : SqT K g.G a xs) (r : RepL K g xs ds) : IsIt K L g ds (Itt K a) where
  go := fun c i w H g' _ l R hi => by
    have hx : i < xs.length := by rw [r.length]; exact hi
    exact ⟨xs, xs[i], R.sqT (SqT_le l s), by simp [hx]⟩
  yld := fun c i w H g' x H' d _ l R hd ⟨e, y⟩ => by
    subst e
    have h1 := y xs (R.sqT (SqT_le l s))
    obtain ⟨u, a, b⟩ := r.get hd
    rw [h1] at a; cases a
    exact ⟨g', .rfl, R, b.le l, fun _ _ z => z⟩
  stop := fun c w H g' _ l R => ⟨xs, R.sqT (SqT_le l s), by rw [r.length]; exact Nat.le_refl _⟩
theorem isIt_range {K : PySem.W.Frag} {L : Addr → Option Obj} {g : Gh} {lo : Int} {n : Nat} : IsIt K L g (rangeD lo n) (Itr lo n) where
  go := fun c i w H g' _ l R hi => by
    have h : i < (rangeD lo n).length := hi
    show i < n
    simpa [rangeD] using h
  yld := fun c i w H g' x H' d _ l R hd ⟨e, y⟩ => by
    subst e
    refine ⟨g', .rfl, R, ?_, fun _ _ z => z⟩
    unfold rangeD at hd
    rw [List.getElem?_map] at hd
    cases q : (List.range n)[i]? with
    | none => rw [q] at hd; cases hd
    | some j =>
      rw [q] at hd; cases hd
      obtain ⟨hi, hj⟩ := List.getElem?_eq_some_iff.mp q
      rw [List.getElem_range] at hj
      subst hj
      rw [y]
      exact .int _
  stop := fun c w H g' _ l R => by
    show n ≤ (rangeD lo n).length
    simp [rangeD]
theorem isIt_str {K : PySem.W.Frag} {L : Addr → Option Obj} {g : Gh} {z : Str} : IsIt K L g (signs z) (Its z) where
  go := fun c i w H g' _ l R hi => by
    have h : i < (signs z).length := hi
    show i < z.cps.size
    simpa [signs] using h
  yld := fun c i w H g' x H' d _ l R hd ⟨e, ch, hc, y⟩ => by
    subst e
    refine ⟨g', .rfl, R, ?_, fun _ _ z => z⟩
    unfold signs at hd
    rw [List.getElem?_map, Array.getElem?_toList, hc] at hd
    cases hd
    rw [y]
    exact .str _
  stop := fun c w H g' _ l R => by
    show z.cps.size ≤ (signs z).length
    simp [signs]
section
variable {X : Cx} {Wv : WX} {tg e a b : Expr} {t : DTE} {ta : DTA} {p pos : Pos}
theorem di_list (h : DE X Wv e t) : DI X Wv tg e (dItL t) :=
  ⟨PI_imp (pi_list h.pe) fun σ H Rv ⟨c, g, env, w, Q, B, q, k⟩ => bindE B q fun v H1 g1 w1 x l1 B1 r1 q1 => by
    cases r1 with
    | lst s r => exact ⟨_, rfl, ⟨_, B1.R.sqL s⟩, k _ w1 H1 g1 _ _ l1 (.inl rfl) B1.R (isIt_list s r) q1⟩
    | _ => exact False.elim q1⟩
theorem di_tup (h : DE X Wv e t) : DI X Wv tg e (dItT t) :=
  ⟨PI_imp (pi_tup h.pe) fun σ H Rv ⟨c, g, env, w, Q, B, q, k⟩ => bindE B q fun v H1 g1 w1 x l1 B1 r1 q1 => by
    cases r1 with
    | tup s r => exact ⟨_, rfl, ⟨_, B1.R.sqT s⟩, k _ w1 H1 g1 _ _ l1 (.inl rfl) B1.R (isIt_tup s r) q1⟩
    | _ => exact False.elim q1⟩
theorem di_str (h : DE X Wv e t) : DI X Wv tg e (dItS t) :=
  ⟨PI_imp (pi_str h.pe) fun σ H Rv ⟨c, g, env, w, Q, B, q, k⟩ => bindE B q fun v H1 g1 w1 x l1 B1 r1 q1 => by
    cases r1 with
    | str s => exact ⟨_, rfl, k _ w1 H1 g1 _ _ l1 (.inl rfl) B1.R isIt_str q1⟩
    | _ => exact False.elim q1⟩
theorem di_range1 (hm : X.mg "range" = none) (ha : DA X Wv [a] ta) (hg : Gl X "range" := by rfl) (hs : starEach [a] X.env = [(false, eval a X.env)] := by rfl) : DI X Wv tg (.Call (.Name "range" p) [a] [] pos) (dRng1 ta) :=
  ⟨PI_imp (pi_range1 hg hm ha.pa hs) fun σ H Rv ⟨c, g, env, w, Q, B, q, k⟩ => bindA B q fun vs H1 g1 w1 xs l1 B1 r1 q1 => by
    unfold dRng1 at q
    split at q1
    · cases r1 with
      | cons ra rr =>
        cases rr; cases ra
        exact ⟨_, rfl, q1.1, q1.2.1, k _ w1 H1 g1 _ _ l1 (.inl rfl) B1.R isIt_range q1.2.2⟩
    · exact q1.elim⟩
theorem di_range2 (hm : X.mg "range" = none) (ha : DA X Wv [a, b] ta) (hg : Gl X "range" := by rfl) (hs : starEach [a, b] X.env = [(false, eval a X.env), (false, eval b X.env)] := by rfl) (hs2 : starEach [b] X.env = [(false, eval b X.env)] := by rfl) :
    DI X Wv tg (.Call (.Name "range" p) [a, b] [] pos) (dRng2 ta) :=
  ⟨PI_imp (pi_range2 hg hm ha.pa hs hs2) fun σ H Rv ⟨c, g, env, w, Q, B, q, k⟩ => bindA B q fun vs H1 g1 w1 xs l1 B1 r1 q1 => by
    unfold dRng2 at q
    split at q1
    · cases r1 with
      | cons ra rr =>
        cases rr with
        | cons rb rr =>
          cases rr; cases ra; cases rb
          exact ⟨_, _, rfl, q1.1, k _ w1 H1 g1 _ _ l1 (.inl rfl) B1.R isIt_range q1.2⟩
    · exact q1.elim⟩
end

/-! ### for -/
def dFor (ti : DTI) (gd : DTG) (tb : DTS) : DTS := fun D env w => ti env w fun items w1 => ∃ Pv : Nat → En → W → Prop, Pv 0 env w1 ∧
  (∀ i x env w, items[i]? = some x → Pv i env w → gd x env w fun env2 w2 => tb { D with nx := Pv (i + 1), ct := Pv (i + 1), bk := D.nx } env2 w2) ∧ ∀ env w, Pv items.length env w → D.nx env w
theorem ds_for {X : Cx} {Wv : WX} {tg iter : Expr} {body : List Stmt} {ti : DTI} {gd : DTG} {tb : DTS} {sl : List Nat} {pos : Pos} (hp : PassesOwn (model X.prog X.w) X.A X.env X.xe) (hc : X.calm = true) (hi : DI X Wv tg iter ti) (hg : DG X (unlW X Wv) tg sl gd) (hb : DSs X (unlW X Wv) body tb)
    (hs : ∀ x, foldedSetIterable iter X.env x = pure x := by intro _; rfl) : DS X Wv (.For tg iter body [] pos) (dFor ti gd tb) := by
  refine ⟨PS_imp (ps_unl (ps_for hp hc hi.pi hg.pg hb.ps hs)) fun Dv σ H ⟨c, g, env, w, D, B, q, k⟩ => ?_⟩
  refine ⟨c, g, env, w, _, B, q, fun items w1 H1 g1 J c1 l1 lk R1 it q1 => ?_⟩
  obtain ⟨Pv, h0, hstep, hd⟩ := q1
  refine ⟨fun i m σ H => m = items.length - i ∧ i ≤ items.length ∧ ∃ g2 env w2, g1.le g2 ∧ Bx X.K (unlW X Wv) c1 g2 env w2 σ H ∧ Pv i env w2, ⟨items.length, by simp, Nat.zero_le _, g1, env, w1, .rfl, B.lk lk l1 R1, h0⟩, ?_⟩
  rintro i m σ2 H2 ⟨rfl, hi, g2, env2, w2, l2, B2, p⟩
  by_cases hlt : i < items.length
  · refine .inr ⟨it.go c1 i w2 H2 g2 rfl l2 B2.R hlt, fun σ3 H3 => ∃ g3 env w3, g1.le g3 ∧ Bx X.K (unlW X Wv) c1 g3 env w3 σ3 H3 ∧ Pv (i + 1) env w3, fun σ3 H3 ⟨g3, env3, w3, l3, B3, p3⟩ =>
      ⟨items.length - (i + 1), by omega, rfl, hlt, g3, env3, w3, l3, B3, p3⟩, fun x H' y => ?_⟩
    have hx : items[i]? = some items[i] := by simp [hlt]
    obtain ⟨g3, l3, R3, r3, _⟩ := it.yld c1 i w2 H2 g2 x H' _ rfl l2 B2.R hx y
    refine ⟨c1, g3, env2, w2, _, _, B2.step l3 R3, r3, hstep i _ env2 w2 hx p, fun env4 w4 σ4 H4 g4 l4 B4 _ q4 => ?_⟩
    refine ⟨c1, g4, env4, w4, _, B4, q4, ⟨fun env5 w5 σ5 H5 g5 l5 B5 q5 => ⟨g5, env5, w5, ((l2.trans l3).trans l4).trans l5, B5, q5⟩, fun v H5 q5 => lk.out (((l1.trans l2).trans l3).trans l4) ((l2.trans l3).trans l4) k.rt q5, fun env5 w5 σ5 H5 g5 l5 B5 q5 => ?_, fun env5 w5 σ5 H5 g5 l5 B5 q5 => ⟨g5, env5, w5, ((l2.trans l3).trans l4).trans l5, B5, q5⟩⟩⟩
    exact Lk.outS B lk ((((l1.trans l2).trans l3).trans l4).trans l5) (((l2.trans l3).trans l4).trans l5) B5 k.nx q5
  · have e : i = items.length := by omega
    subst e
    exact .inl ⟨it.stop c1 w2 H2 g2 rfl l2 B2.R, Lk.outS B lk (l1.trans l2) l2 B2 k.nx (hd env2 w2 p)⟩

/-! ### while -/
def dWhile (tc : DTT) (tb : DTS) : DTS := fun D env w => ∃ Pv : Nat → En → W → Prop, (∃ m, Pv m env w) ∧ ∀ m env w, Pv m env w →
  tc env w fun b w1 => if b = true then tb { D with nx := fun env' w' => ∃ m', m' < m ∧ Pv m' env' w', ct := fun env' w' => ∃ m', m' < m ∧ Pv m' env' w', bk := D.nx } env w1 else D.nx env w1
theorem ds_while {X : Cx} {Wv : WX} {c : Expr} {body : List Stmt} {tc : DTT} {tb : DTS} {pos : Pos} (hp : PassesOwn (model X.prog X.w) X.A X.env X.xe) (hc : DT X Wv c tc) (hb : DSs X Wv body tb) : DS X Wv (.While c body [] pos) (dWhile tc tb) := by
  refine ⟨PS_imp (ps_while hp hc.pt hb.ps) fun Dv σ H ⟨c, g, env, w, D, B, q, k⟩ => ?_⟩
  obtain ⟨Pv, ⟨m0, h0⟩, hstep⟩ := q
  refine ⟨fun m σ H => ∃ g2 env w2, g.le g2 ∧ Bx X.K Wv c g2 env w2 σ H ∧ Pv m env w2, ⟨m0, g, env, w, .rfl, B, h0⟩, ?_⟩
  rintro m σ2 H2 ⟨g2, env2, w2, l2, B2, p⟩
  refine bindT B2 (hstep m env2 w2 p) fun b H3 g3 w3 l3 B3 q3 => ?_
  cases b with
  | true =>
    refine iteT ⟨fun σ4 H4 => ∃ m', m' < m ∧ ∃ g4 env4 w4, g.le g4 ∧ Bx X.K Wv c g4 env4 w4 σ4 H4 ∧ Pv m' env4 w4, fun _ _ z => z, ?_⟩
    refine ⟨c, g3, env2, w3, _, B3, q3, ⟨fun env5 w5 σ5 H5 g5 l5 B5 ⟨m', hm, q5⟩ => ⟨m', hm, g5, env5, w5, (l2.trans l3).trans l5, B5, q5⟩, fun v H5 q5 => k.rt v H5 (q5.up (l2.trans l3)), fun env5 w5 σ5 H5 g5 l5 B5 q5 => ?_, fun env5 w5 σ5 H5 g5 l5 B5 ⟨m', hm, q5⟩ => ⟨m', hm, g5, env5, w5, (l2.trans l3).trans l5, B5, q5⟩⟩⟩
    exact k.nx env5 w5 σ5 H5 g5 ((l2.trans l3).trans l5) B5 q5
  | false => exact iteF (k.nx env2 w3 σ2 H3 g3 (l2.trans l3) B3 q3)

/-! ### an object held fast for a while -/
section
variable {K : PySem.W.Frag} {c : Ck} {g : Gh} {w : W} {H : Hp} {p : Addr} {o o' : HO}
def Ck.fr (c : Ck) (p : Addr) (o : HO) : Ck := { c with F := upd c.F p o }
theorem Rel.allocF (R : Rel K c g w H) (h : H p = none) : Rel K (c.fr p o) g w (upd H p o) := by
  refine ⟨fun a u e => ?_, R.lck, fun a m e => ?_, fun a q e => ?_, fun a e => ?_, R.ex⟩
  · rw [upd_ne (ne_of_none e (R.noG h))]
    exact R.imm a u e
  · obtain ⟨h1, h2, h3, o', h4, h5⟩ := R.mu a m e
    have ha : a ≠ p := ne_of_none h4 h
    exact ⟨h1, by show upd c.F p o a = none; rw [upd_ne ha]; exact h2, h3, o', by rw [upd_ne ha]; exact h4, h5⟩
  · by_cases ha : a = p
    · subst ha
      have e' : upd c.F a o a = some q := e
      rw [upd_same] at e'; cases e'
      exact ⟨upd_same, R.noG h, R.noP h⟩
    · have e' : upd c.F p o a = some q := e
      rw [upd_ne ha] at e'
      rw [upd_ne ha]
      exact R.frm a q e'
  · obtain ⟨h1, xs, h2, h3⟩ := R.pen a e
    exact ⟨h1, xs, by rw [upd_ne (ne_of_none h2 h)]; exact h2, h3⟩
theorem Rel.writeF (R : Rel K (c.fr p o) g w H) : Rel K (c.fr p o') g w (upd H p o') := by
  obtain ⟨_, hG, hP⟩ := R.frm p o upd_same
  refine ⟨fun a u e => ?_, R.lck, fun a m e => ?_, fun a q e => ?_, fun a e => ?_, R.ex⟩
  · rw [upd_ne (ne_of_none e hG)]
    exact R.imm a u e
  · obtain ⟨h1, h2, h3, o1, h4, h5⟩ := R.mu a m e
    have ha : a ≠ p := fun z => by
      have h2' : upd c.F p o a = none := h2
      rw [z, upd_same] at h2'; cases h2'
    have h2' : upd c.F p o a = none := h2
    rw [upd_ne ha] at h2'
    exact ⟨h1, by show upd c.F p o' a = none; rw [upd_ne ha]; exact h2', h3, o1, by rw [upd_ne ha]; exact h4, h5⟩
  · by_cases ha : a = p
    · subst ha
      have e' : upd c.F a o' a = some q := e
      rw [upd_same] at e'; cases e'
      exact ⟨upd_same, hG, hP⟩
    · have e' : upd c.F p o' a = some q := e
      rw [upd_ne ha] at e'
      rw [upd_ne ha]
      exact R.frm a q (by show upd c.F p o a = some q; rw [upd_ne ha]; exact e')
  · obtain ⟨h1, xs, h2, h3⟩ := R.pen a e
    have ha : a ≠ p := fun z => by rw [z, hP] at e; cases e
    exact ⟨h1, xs, by rw [upd_ne ha]; exact h2, h3⟩
/-- it is let go, and does not change any more -/
theorem Rel.landF (R : Rel K (c.fr p o) g w H) (hF : c.F p = none) : g.le (g.add p o) ∧ Rel K c (g.add p o) w H := by
  obtain ⟨h0, hG, hP⟩ := R.frm p o upd_same
  have le := Gh.add_le (o := o) hG
  have hL : c.L p = none := R.noL hG
  refine ⟨le, fun a u e => ?_, fun a q e => ?_, fun a m e => ?_, fun a q e => ?_, fun a e => ?_, R.ex⟩
  · by_cases ha : a = p
    · subst ha
      have e' : upd g.G a o a = some u := e
      rw [upd_same] at e'; cases e'
      exact .inl ⟨hL, h0⟩
    · have e' : upd g.G p o a = some u := e
      rw [upd_ne ha] at e'
      exact R.imm a u e'
  · obtain ⟨u, q⟩ := R.lck a q e
    exact ⟨u, le.G _ _ q⟩
  · obtain ⟨h1, h2, h3, o1, h4, h5⟩ := R.mu a m e
    have ha : a ≠ p := fun z => by
      have h2' : upd c.F p o a = none := h2
      rw [z, upd_same] at h2'; cases h2'
    have h2' : upd c.F p o a = none := h2
    rw [upd_ne ha] at h2'
    exact ⟨by show upd g.G p o a = none; rw [upd_ne ha]; exact h1, h2', h3, o1, h4, h5.le le⟩
  · have ha : a ≠ p := fun z => by rw [z, hF] at e; cases e
    obtain ⟨h1, h2, h3⟩ := R.frm a q (by show upd c.F p o a = some q; rw [upd_ne ha]; exact e)
    exact ⟨h1, by show upd g.G p o a = none; rw [upd_ne ha]; exact h2, h3⟩
  · obtain ⟨h1, xs, h2, h3⟩ := R.pen a e
    have ha : a ≠ p := fun z => by
      have e' : g.pm a = true := e
      rw [z, hP] at e'; cases e'
    exact ⟨by show upd g.G p o a = none; rw [upd_ne ha]; exact h1, xs, h2, h3.le le (Nat.le_refl _)⟩
/-- it is let go, and may change -/
theorem Rel.landM {m : MO} (R : Rel K (c.fr p o) g w H) (hF : c.F p = none) (r : RepM K g m o) : Rel K c g (w.put p m) H := by
  obtain ⟨h0, hG, hP⟩ := R.frm p o upd_same
  refine ⟨R.imm, R.lck, fun a m' e => ?_, fun a q e => ?_, R.pen, R.ex⟩
  · by_cases ha : a = p
    · subst ha
      have e' : updM w.m a m a = some m' := e
      rw [updM_same] at e'; cases e'
      exact ⟨hG, hF, hP, o, h0, r⟩
    · have e' : updM w.m p m a = some m' := e
      rw [updM_ne ha] at e'
      obtain ⟨h1, h2, h3, o1, h4, h5⟩ := R.mu a m' e'
      have h2' : upd c.F p o a = none := h2
      rw [upd_ne ha] at h2'
      exact ⟨h1, h2', h3, o1, h4, h5⟩
  · have ha : a ≠ p := fun z => by rw [z, hF] at e; cases e
    exact R.frm a q (by show upd c.F p o a = some q; rw [upd_ne ha]; exact e)
/-- it is forgotten -/
theorem Rel.unfr (R : Rel K (c.fr p o) g w H) (hF : c.F p = none) : Rel K c g w H := by
  refine ⟨R.imm, R.lck, fun a m e => ?_, fun a q e => ?_, R.pen, R.ex⟩
  · obtain ⟨h1, h2, h3, h4⟩ := R.mu a m e
    have h2' : upd c.F p o a = none := h2
    by_cases ha : a = p
    · rw [ha, upd_same] at h2'; cases h2'
    · rw [upd_ne ha] at h2'
      exact ⟨h1, h2', h3, h4⟩
  · have ha : a ≠ p := fun z => by rw [z, hF] at e; cases e
    exact R.frm a q (by show upd c.F p o a = some q; rw [upd_ne ha]; exact e)
theorem Rel.noMF (R : Rel K (c.fr p o) g w H) : w.m p = none := by
  cases e : w.m p with
  | none => rfl
  | some m =>
    obtain ⟨_, h2, _⟩ := R.mu p m e
    have h2' : upd c.F p o p = none := h2
    rw [upd_same] at h2'; cases h2'
def noE : En → Str → Option (List (Str × D)) → Mem → Nat → Prop := fun _ _ _ _ _ => False
def Ck.mute (c : Ck) : Ck := { c with e := noE }
theorem Rel.mute (R : Rel K c g w H) : Rel K c.mute g w.mute H := ⟨R.imm, R.lck, R.mu, R.frm, R.pen, rfl⟩
theorem Rel.unmute {w0 : W} (R : Rel K c.mute g w H) (h : w0.e = c.e) : Rel K c g (w.as w0) H := ⟨R.imm, R.lck, R.mu, R.frm, R.pen, h⟩
end

/-! ### comprehensions -/
abbrev W0 : WX := fun _ _ _ _ => False
def wipeD (env : En) : List Nat → En
  | [] => env
  | v :: vs => (wipeD env vs).set v none
theorem EnR.noneB {K : PySem.W.Frag} {g : Gh} {env : En} {σ : St} (e : EnR K g env σ) (i : Nat) : EnR K g (env.set i Option.none) (σ.set i Option.none) := by
  refine ⟨by rw [List.length_set, List.length_set]; exact e.len, fun j x q => ?_⟩
  by_cases h : i = j
  · subst h
    by_cases hi : i < env.length
    · rw [List.getElem?_set_self hi] at q; cases q
    · rw [List.getElem?_eq_none (by rw [List.length_set]; omega)] at q; cases q
  · rw [List.getElem?_set_ne h] at q
    rw [List.getElem?_set_ne h]
    exact e.at_ j x q
theorem EnR.wipe {K : PySem.W.Frag} {g : Gh} {env : En} {σ : St} (e : EnR K g env σ) : ∀ vs, EnR K g (wipeD env vs) (wipe σ vs)
  | [] => e
  | v :: vs => (EnR.wipe e vs).noneB v
/-- a clause's tests -/
structure DTs (X : Cx) (Wv : WX) (ifs : List Expr) (t : DTT) : Prop where
  pts : PTs X ifs (liftT X.K Wv t)
def dYes : DTT := fun _ w Q => Q true w
theorem dts_nil {X : Cx} {Wv : WX} : DTs X Wv [] dYes := ⟨⟨fun pins s σ H Qv I ⟨c, g, env, w, Q, B, q, k⟩ => pts_nil.run pins s σ H Qv I (k true H ⟨g, w, .rfl, B.R, q⟩)⟩⟩
theorem dts_one {X : Cx} {Wv : WX} {c : Expr} {t : DTT} (h : DT X Wv c t) : DTs X Wv [c] t := ⟨pts_one h.pt⟩
/-- [elt for target in iter if ..] -/
def dLcG (fin : List D → W → DK → Prop) (ti : DTI) (gd : DTG) (tt : DTT) (te : DTE) (vs : List Nat) : DTE := fun env w Q => ti env w fun items w1 => items.length ≤ sizeLine ∧ ∃ Pv : Nat → List D → W → Prop, Pv 0 [] w1 ∧
  (∀ i x acc w2, items[i]? = some x → acc.length ≤ i → Pv i acc w2 → gd x (wipeD env vs) w2.mute fun env2 w3 => tt env2 w3 fun b w4 => if b = true then te env2 w4 fun y w5 => Pv (i + 1) (acc ++ [y]) (w5.as w1) else Pv (i + 1) acc (w4.as w1)) ∧
  ∀ acc w2, Pv items.length acc w2 → fin acc w2 Q
def finL : List D → W → DK → Prop := fun acc w Q => Q (.lst acc) w
def finM : List D → W → DK → Prop := fun acc w Q => ∀ p, w.m p = none → Q (.ref p) (w.put p (.lst acc))
def FinOk (K : PySem.W.Frag) (fin : List D → W → DK → Prop) : Prop := ∀ (c : Ck) (g : Gh) (w : W) (H : Hp) (p : Addr) (xs : List V) (ds : List D) (Q : DK), Rel K (c.fr p (.lst xs)) g w H → c.F p = none → RepL K g xs ds → fin ds w Q → PQ K c g Q (.ref p) H
theorem finL_ok {K : PySem.W.Frag} : FinOk K finL := fun c g w H p xs ds Q R hF r q => by
  obtain ⟨l, R'⟩ := R.landF hF
  exact ⟨_, w, _, l, R', .lst (.inl (.inl Gh.add_at)) (r.le l), q⟩
theorem finM_ok {K : PySem.W.Frag} : FinOk K finM := fun c g w H p xs ds Q R hF r q =>
  ⟨g, _, _, .rfl, R.landM hF (.lst r), .ref p, q p R.noMF⟩
abbrev dLc := dLcG finL
abbrev dLcM := dLcG finM
theorem lc_lift {X : Cx} {Wv : WX} {fin : List D → W → DK → Prop} (hfin : FinOk X.K fin) {ti : DTI} {gd : DTG} {tt : DTT} {te : DTE} {sl vs : List Nat} (hsl : ∀ i ∈ sl, i ∈ vs) {σ : St} {H : Hp} {Qv : VK} (h : liftE X.K Wv (dLcG fin ti gd tt te vs) σ H Qv) :
    tLc (liftI X Wv ti) (liftG X.K W0 sl gd) (liftT X.K W0 tt) (liftE X.K W0 te) vs σ H (unlV X Qv) := by
  obtain ⟨c, g, env, w, Q, B, q, k⟩ := h
  refine ⟨c, g, env, w, _, B, q, fun items w1 H1 g1 J c1 l1 lk R1 it q1 => fun D hD => ?_⟩
  obtain ⟨hz, Pv, h0, hstep, hd⟩ := q1
  have hF : c1.F D = none := R1.noF hD
  refine ⟨fun i m H => m = items.length - i ∧ i ≤ items.length ∧ ∃ g2 acc accv w2, g1.le g2 ∧ RepL X.K g2 accv acc ∧ acc.length ≤ i ∧ Rel X.K (c1.fr D (.lst accv)) g2 w2 H ∧ Pv i acc w2,
    ⟨items.length, by simp, Nat.zero_le _, g1, [], [], w1, .rfl, .nil, Nat.le_refl _, R1.allocF hD, h0⟩, ?_⟩
  rintro i m H2 ⟨rfl, hi, g2, acc, accv, w2, l2, r2, ha, R2, p⟩
  by_cases hlt : i < items.length
  · refine .inr ⟨it.go (c1.fr D (.lst accv)) i w2 H2 g2 rfl l2 R2 hlt, fun H3 => ∃ g3 acc accv w3, g1.le g3 ∧ RepL X.K g3 accv acc ∧ acc.length ≤ i + 1 ∧ Rel X.K (c1.fr D (.lst accv)) g3 w3 H3 ∧ Pv (i + 1) acc w3, fun H3 ⟨g3, acc3, accv3, w3, z⟩ =>
      ⟨items.length - (i + 1), by omega, rfl, hlt, g3, acc3, accv3, w3, z⟩, fun x H' y => ?_⟩
    have hx : items[i]? = some items[i] := by simp [hlt]
    obtain ⟨g3, l3, R3, r3, _⟩ := it.yld (c1.fr D (.lst accv)) i w2 H2 g2 x H' _ rfl l2 R2 hx y
    have e1 : w1.e = c1.e := R1.ex
    have Bm : Bx X.K W0 (c1.fr D (.lst accv)).mute g3 (wipeD env vs) w2.mute (wipe σ vs) H' := ⟨R3.mute, (B.E.le ((l1.trans l2).trans l3)).wipe vs, fun _ _ _ _ _ _ _ _ px => by
      obtain ⟨_, _, _, _, _, _, _, z, _⟩ := px
      exact z⟩
    refine ⟨_, g3, _, _, _, _, Bm, r3, hstep i _ acc w2 hx ha p, fun env4 w4 σ4 H4 g4 l4 B4 s4 q4 => ⟨?_, ?_⟩⟩
    · have e := s4 vs hsl
      rw [e]
      have ww : ∀ us : List Nat, (∀ i ∈ us, i ∈ vs) → wipe (wipe σ vs) us = wipe σ vs := by
        intro us
        induction us with
        | nil => intro _; rfl
        | cons u us ih =>
          intro hu
          show (wipe (wipe σ vs) us).set u Option.none = wipe σ vs
          rw [ih fun i hi => hu i (List.mem_cons_of_mem _ hi)]
          have hm := hu u List.mem_cons_self
          have key : ∀ ws : List Nat, u ∈ ws → (wipe σ ws).set u none = wipe σ ws := by
            intro ws
            induction ws with
            | nil => intro h; cases h
            | cons v ws ih2 =>
              intro h
              unfold wipe
              by_cases e : u = v
              · subst e; rw [List.set_set]
              · rw [List.set_comm _ _ (Ne.symm e), ih2 ((List.mem_cons.mp h).resolve_left e)]
          exact key vs hm
      exact ww vs fun _ h => h
    · refine bindT B4 q4 fun b H5 g5 w5 l5 B5 q5 => ?_
      have c3 : ∀ {g' : Gh} {w' : W} {H' : Hp}, Rel X.K (c1.fr D (.lst accv)).mute g' w' H' → Rel X.K (c1.fr D (.lst accv)) g' (w'.as w1) H' := fun R => R.unmute e1
      cases b with
      | true =>
        refine iteT (bindE B5 q5 fun v H6 g6 w6 y l6 B6 r6 q6 => ?_)
        have R6 := c3 B6.R
        refine ⟨accv, (R6.frm D _ upd_same).1, by have := r2.length; omega, g6, acc ++ [y], accv ++ [v], w6.as w1, (((l2.trans l3).trans l4).trans l5).trans l6, (r2.le (((l3.trans l4).trans l5).trans l6)).append (.cons r6 .nil), by rw [List.length_append]; simpa using ha, R6.writeF, q6⟩
      | false => exact iteF ⟨g5, acc, accv, w5.as w1, ((l2.trans l3).trans l4).trans l5, r2.le ((l3.trans l4).trans l5), by omega, c3 B5.R, q5⟩
  · have e : i = items.length := by omega
    subst e
    exact .inl ⟨it.stop (c1.fr D (.lst accv)) w2 H2 g2 rfl l2 R2, lk.out (l1.trans l2) l2 k (hfin c1 g2 w2 H2 D accv acc Q R2 hF r2 (hd acc w2 p))⟩
section
variable {X : Cx} {Wv : WX} {elt tg iter : Expr} {ifs : List Expr} {scope : Scope} {own : List (Str × Nat)} {sl : List Nat} {pos : Pos} {ti : DTI} {gd : DTG} {tt : DTT} {te : DTE} {fin : List D → W → DK → Prop}
theorem de_lcG (hfin : FinOk X.K fin) (hc : X.calm = true) (hN : X.N.Nodup) (hi : DI X Wv tg iter ti) (ok : blkC X.N X.env.scope scope own = true)
    (hg : ∀ (s : Shared) (H : Hp) (C : Addr) (cl : List (Str × Addr)) (fp : List Addr), DG (X.blk s H scope (compEnvC scope cl C X.env) fp) W0 tg sl gd)
    (ht : ∀ (s : Shared) (H : Hp) (C : Addr) (cl : List (Str × Addr)) (fp : List Addr), DTs (X.blk s H scope (compEnvC scope cl C X.env) fp) W0 ifs tt)
    (he : ∀ (s : Shared) (H : Hp) (C : Addr) (cl : List (Str × Addr)) (fp : List Addr), DE (X.blk s H scope (compEnvC scope cl C X.env) fp) W0 elt te) (hsl : (sl.all fun i => (own.map (·.2)).contains i) = true := by rfl) (hs : ∀ x, foldedSetIterable iter X.env x = pure x := by intro _; rfl) :
    DE X Wv (.ListComp elt [⟨tg, iter, ifs, 0⟩] scope pos) (dLcG fin ti gd tt te (own.map (·.2))) :=
  ⟨PE_imp (pe_unl (pe_lc hc hN hi.pi (blkOk_by ok) (fun s H C cl fp => (hg s H C cl fp).pg) (fun s H C cl fp => (ht s H C cl fp).pts) (fun s H C cl fp => (he s H C cl fp).pe) hs)) fun σ H Qv h => lc_lift hfin (fun i hi => by simpa using List.all_eq_true.mp hsl i hi) h⟩
theorem ds_setLcG (hfin : FinOk X.K fin) {i : Nat} {y : Str} {py spos : Pos} (hc : X.calm = true) (hN : X.N.Nodup) (hi : DI X Wv tg iter ti) (ok : blkC X.N X.env.scope scope own = true)
    (hg : ∀ (s : Shared) (H : Hp) (C : Addr) (cl : List (Str × Addr)) (fp : List Addr), DG (X.blk s H scope (compEnvC scope cl C X.env) fp) W0 tg sl gd)
    (ht : ∀ (s : Shared) (H : Hp) (C : Addr) (cl : List (Str × Addr)) (fp : List Addr), DTs (X.blk s H scope (compEnvC scope cl C X.env) fp) W0 ifs tt)
    (he : ∀ (s : Shared) (H : Hp) (C : Addr) (cl : List (Str × Addr)) (fp : List Addr), DE (X.blk s H scope (compEnvC scope cl C X.env) fp) W0 elt te)
    (hy : X.N[i]? = some y := by rfl) (hyl : X.env.scope.names.lookup y = some .local := by rfl) (hsw : swapsWith (.ListComp elt [⟨tg, iter, ifs, 0⟩] scope pos) (some (.Name y py)) spos.line X.env = pure true := by exact sw_true rfl rfl rfl (by decide +kernel))
    (hsl : (sl.all fun i => (own.map (·.2)).contains i) = true := by rfl) (hs : ∀ x, foldedSetIterable iter X.env x = pure x := by intro _; rfl) :
    DS X Wv (.Assign [.Name y py] (.ListComp elt [⟨tg, iter, ifs, 0⟩] scope pos) spos) (dSet i (dLcG fin ti gd tt te (own.map (·.2)))) :=
  ⟨PS_imp (ps_unl (ps_setLc hc hN hy hyl hsw hi.pi (blkOk_by ok) (fun s H C cl fp => (hg s H C cl fp).pg) (fun s H C cl fp => (ht s H C cl fp).pts) (fun s H C cl fp => (he s H C cl fp).pe) hs)) fun Dv σ H ⟨c, g, env, w, D, B, q, k⟩ =>
    lc_lift hfin (fun i hi => by simpa using List.all_eq_true.mp hsl i hi) ⟨c, g, env, w, _, B, q, fun v H1 ⟨g1, w1, d, l1, R1, r1, q1⟩ => k.nx _ w1 _ H1 g1 l1 ((B.step l1 R1).env ((B.E.le l1).set r1)) q1⟩⟩
end
end DL

/-! DLe: operators, subscripts, slices, built-ins over trees. -/
namespace DL
open PySem PySem.Spec PyProof.Rows L2

theorem PT_or {X : Cx} {e : Expr} {t t' : TT} (h : PT X e t) (h' : PT X e t') : PT X e fun σ H Q => t σ H Q ∨ t' σ H Q := ⟨fun pins s σ H Q I q => q.elim (h.run pins s σ H Q I) (h'.run pins s σ H Q I)⟩
theorem CallR_or {X : Cx} {f : Value} {r r' : List V → Hp → VK → Prop} (h : CallR X f r) (h' : CallR X f r') : CallR X f fun x H Q => r x H Q ∨ r' x H Q := fun pins s σ H x v Q I rx q => q.elim (h pins s σ H x v Q I rx) (h' pins s σ H x v Q I rx)

/-! ### int operators -/
theorem opD_int {X : Cx} {f : Value → Value → Sem Value} {C : Int → Int → Prop} {g : Int → Int → Int} (h : OpR X f (rI C fun i j => .int (g i j))) : OpD X f fun x y w Q => match x, y with
    | .int i, .int j => C i j ∧ Q (.int (g i j)) w
    | _, _ => False := ⟨_, h, fun c gh w H x y v u Q Qv R r1 r2 q k => by
  cases r1 with
  | int i => cases r2 with
    | int j => exact ⟨i, j, rfl, rfl, q.1, k _ _ ⟨gh, w, _, .rfl, R, .int _, q.2⟩⟩
    | _ => exact False.elim q
  | _ => exact False.elim q⟩
theorem opD_int0 {X : Cx} {f : Value → Value → Sem Value} {g : Int → Int → Int} (h : OpR X f (rI0 fun i j => .int (g i j))) : OpD X f fun x y w Q => match x, y with
    | .int i, .int j => Q (.int (g i j)) w
    | _, _ => False := ⟨_, h, fun c gh w H x y v u Q Qv R r1 r2 q k => by
  cases r1 with
  | int i => cases r2 with
    | int j => exact ⟨i, j, rfl, rfl, k _ _ ⟨gh, w, _, .rfl, R, .int _, q⟩⟩
    | _ => exact False.elim q
  | _ => exact False.elim q⟩
theorem opD_bl0 {X : Cx} {f : Value → Value → Sem Value} {g : Int → Int → Bool} (h : OpR X f (rI0 fun i j => .bl (g i j))) : OpD X f fun x y w Q => match x, y with
    | .int i, .int j => Q (.bl (g i j)) w
    | _, _ => False := ⟨_, h, fun c gh w H x y v u Q Qv R r1 r2 q k => by
  cases r1 with
  | int i => cases r2 with
    | int j => exact ⟨i, j, rfl, rfl, k _ _ ⟨gh, w, _, .rfl, R, .bl _, q⟩⟩
    | _ => exact False.elim q
  | _ => exact False.elim q⟩
section
variable {X : Cx}
theorem od_sub : OpD X (binaryOp .Sub) fun x y w Q => match x, y with
    | .int i, .int j => Q (.int (i - j)) w
    | _, _ => False := opD_int0 op_sub
/-- // and % by a number above nought -/
theorem od_fdiv : OpD X (binaryOp .FloorDiv) fun x y w Q => match x, y with
    | .int i, .int j => CDiv i j ∧ Q (.int (i / j)) w
    | _, _ => False := opD_int op_fdiv
theorem od_mod : OpD X (binaryOp .Mod) fun x y w Q => match x, y with
    | .int i, .int j => 0 < j ∧ Q (.int (i % j)) w
    | _, _ => False := opD_int op_mod
theorem od_pow : OpD X (binaryOp .Pow) fun x y w Q => match x, y with
    | .int i, .int j => CPow i j ∧ Q (.int (i ^ j.toNat)) w
    | _, _ => False := opD_int op_pow
end

/-! ### + -/
def rCatS (K : PySem.W.Frag) : R2 := fun x y H Q => ∃ l b xs zs, x = .ref l ∧ y = .ref b ∧ SqL K H l xs ∧ SqL K H b zs ∧ xs.length + zs.length ≤ sizeLine ∧ ∀ p, H p = none → Q (.ref p) (upd H p (.lst (xs ++ zs)))
theorem op_catS {X : Cx} : OpR X (binaryOp .Add) (rCatS X.K) := by
  intro pins s σ H x y v u Q I rx ry h
  obtain ⟨l, b, xs, zs, rfl, rfl, h1, h2, hz, q⟩ := h
  cases rx
  cases ry
  obtain ⟨its, r1, ⟨⟨c1, d1, t1, s1⟩, n1, e1, hc1, hd1, hs1⟩, z1⟩ := I.list h1
  obtain ⟨its2, r2, ⟨⟨c2, d2, t2, s2⟩, n2, e2, hc2, hd2, hs2⟩, z2⟩ := I.list h2
  simp only at hc1 hd1 hs1 hc2 hd2 hs2
  subst hc1 hd1 hs1 hc2 hd2 hs2
  have el := r1.length
  have el2 := r2.length
  refine concat_meets ⟨_, e1, rfl⟩ ⟨_, e2, rfl⟩ noFill_list_add seq_list_add PySem.F.slot_list_add PySem.F.entry_list_add (PySem.F.args_list_add_2 _ _)
    (list_addW l b its.toArray its2.toArray n1 n2 none none s1 s2 (by rw [List.size_toArray, List.size_toArray]; omega)) ⟨e1, e2, ?_⟩
  have ea : its.toArray ++ its2.toArray = (its ++ its2).toArray := by simp
  rw [ea]
  exact ⟨.ref _, _, I.lnew (t' := s.toks) (r1.append r2) (by rw [List.length_append]; omega), rfl, q _ I.fresh⟩
def addD : DR2 := fun x y w Q => match x, y with
  | .int i, .int j => Q (.int (i + j)) w
  | .str a, .str b => a.length + b.length ≤ sizeLine ∧ Q (.str (a ++ b)) w
  | .lst a, .lst b => a.length + b.length ≤ sizeLine ∧ Q (.lst (a ++ b)) w
  | .tup a, .tup b => a ≠ [] ∧ a.length + b.length ≤ sizeLine ∧ Q (.tup (a ++ b)) w
  | .ref p, .lst b => ∃ a, w.m p = some (.lst a) ∧ a.length + b.length ≤ sizeLine ∧ Q (.lst (a ++ b)) w
  | _, _ => False
theorem Rel.mlst {K : PySem.W.Frag} {c : Ck} {g : Gh} {w : W} {H : Hp} (R : Rel K c g w H) {p : Addr} {xs : List D} (h : w.m p = some (.lst xs)) : ∃ vs, H p = some (.lst vs) ∧ RepL K g vs xs := by
  obtain ⟨_, _, _, o, e, r⟩ := R.mu p _ h
  cases r with
  | lst r => exact ⟨_, e, r⟩
theorem Rel.mdic {K : PySem.W.Frag} {c : Ck} {g : Gh} {w : W} {H : Hp} (R : Rel K c g w H) {p : Addr} {xs : List (Key × D)} (h : w.m p = some (.dic xs)) : ∃ vs, H p = some (.dK vs) ∧ RepK K g vs xs := by
  obtain ⟨_, _, _, o, e, r⟩ := R.mu p _ h
  cases r with
  | dic r => exact ⟨_, e, r⟩
theorem newL {K : PySem.W.Frag} {c : Ck} {g : Gh} {w : W} {H : Hp} {xs : List V} {ds : List D} {Q : DK} {Qv : VK} (R : Rel K c g w H) (r : RepL K g xs ds) (q : Q (.lst ds) w) (k : ∀ v H', PQ K c g Q v H' → Qv v H') :
    ∀ p, H p = none → Qv (.ref p) (upd H p (.lst xs)) := fun p hp =>
  have l := Gh.add_le (o := .lst xs) (R.noG hp)
  k _ _ ⟨_, w, .lst ds, l, R.alloc hp, .lst (.inl (.inl Gh.add_at)) (r.le l), q⟩
theorem newT {K : PySem.W.Frag} {c : Ck} {g : Gh} {w : W} {H : Hp} {xs : List V} {ds : List D} {Q : DK} {Qv : VK} (R : Rel K c g w H) (r : RepL K g xs ds) (q : Q (.tup ds) w) (k : ∀ v H', PQ K c g Q v H' → Qv v H') :
    ∀ p, H p = none → Qv (.ref p) (upd H p (.tup xs)) := fun p hp =>
  have l := Gh.add_le (o := .tup xs) (R.noG hp)
  k _ _ ⟨_, w, .tup ds, l, R.alloc hp, .tup (.inl (.inl Gh.add_at)) (r.le l), q⟩
theorem newM {K : PySem.W.Frag} {c : Ck} {g : Gh} {w : W} {H : Hp} {xs : List V} {ds : List D} {Q : DK} {Qv : VK} (R : Rel K c g w H) (r : RepL K g xs ds) (q : ∀ p, w.m p = none → Q (.ref p) (w.put p (.lst ds))) (k : ∀ v H', PQ K c g Q v H' → Qv v H') :
    ∀ p, H p = none → Qv (.ref p) (upd H p (.lst xs)) := fun p hp =>
  k _ _ ⟨g, _, .ref p, .rfl, R.allocM hp (.lst r), .ref p, q p (R.noM hp)⟩
theorem od_add {X : Cx} : OpD X (binaryOp .Add) addD := by
  refine ⟨_, OpR_or op_add (OpR_or op_add_str (OpR_or op_catS op_catT)), fun c g w H x y v u Q Qv R r1 r2 q k => ?_⟩
  cases r1 with
  | int i => cases r2 with
    | int j => exact .inl ⟨i, j, rfl, rfl, k _ _ ⟨g, w, _, .rfl, R, .int _, q⟩⟩
    | _ => exact False.elim q
  | str i => cases r2 with
    | str j => exact .inr (.inl ⟨i, j, rfl, rfl, q.1, k _ _ ⟨g, w, _, .rfl, R, .str _, q.2⟩⟩)
    | _ => exact False.elim q
  | lst s1 r1 => cases r2 with
    | lst s2 r2 => exact .inr (.inr (.inl ⟨_, _, _, _, rfl, rfl, R.sqL s1, R.sqL s2, by rw [r1.length, r2.length]; exact q.1, newL R (r1.append r2) q.2 k⟩))
    | _ => exact False.elim q
  | @tup a xs ds s1 r1 => cases r2 with
    | @tup b ys es s2 r2 =>
      refine .inr (.inr (.inr ⟨_, _, _, _, rfl, rfl, R.sqT s1, R.sqT s2, fun z => ?_, by rw [r1.length, r2.length]; exact q.2.1, fun z => ?_, fun _ => newT R (r1.append r2) q.2.2 k⟩))
      · subst z
        cases r1
        exact q.1 rfl
      · subst z
        cases r2
        refine k _ _ ⟨g, w, _, .rfl, R, .tup s1 r1, ?_⟩
        have := q.2.2
        rw [List.append_nil] at this
        exact this
    | _ => exact False.elim q
  | ref p => cases r2 with
    | lst s2 r2 =>
      obtain ⟨a, e, q1, q2⟩ := (show ∃ a, w.m p = some (.lst a) ∧ _ ∧ _ from q)
      obtain ⟨vs, e1, r1⟩ := R.mlst e
      exact .inr (.inr (.inl ⟨_, _, _, _, rfl, rfl, SqL.of e1, R.sqL s2, by rw [r1.length, r2.length]; exact q1, newL R (r1.append r2) q2 k⟩))
    | _ => exact False.elim q
  | _ => exact False.elim q

/-! ### * -/
def mulD : DR2 := fun x y w Q => match x, y with
  | .int i, .int j => CMul i j ∧ Q (.int (i * j)) w
  | .ref p, .int j => ∃ xs, w.m p = some (.lst xs) ∧ -(2 ^ 63) ≤ j ∧ j < 2 ^ 63 ∧ xs.length * j.toNat ≤ sizeLine ∧ Q (.lst (List.replicate j.toNat xs).flatten) w
  | _, _ => False
theorem RepL.rep {K : PySem.W.Frag} {g : Gh} {xs : List V} {ds : List D} (r : RepL K g xs ds) : ∀ n : Nat, RepL K g (List.replicate n xs).flatten (List.replicate n ds).flatten
  | 0 => .nil
  | n + 1 => by
    rw [List.replicate_succ, List.replicate_succ, List.flatten_cons, List.flatten_cons]
    exact r.append (RepL.rep r n)
theorem od_mul {X : Cx} : OpD X (binaryOp .Mult) mulD := by
  refine ⟨_, OpR_or op_mul op_rep, fun c g w H x y v u Q Qv R r1 r2 q k => ?_⟩
  cases r1 with
  | int i => cases r2 with
    | int j => exact .inl ⟨i, j, rfl, rfl, q.1, k _ _ ⟨g, w, _, .rfl, R, .int _, q.2⟩⟩
    | _ => exact False.elim q
  | ref p => cases r2 with
    | int j =>
      obtain ⟨xs, e, h1, h2, h3, q⟩ := (show ∃ a, w.m p = some (.lst a) ∧ _ from q)
      obtain ⟨vs, e1, r1⟩ := R.mlst e
      exact .inr ⟨_, _, _, rfl, rfl, e1, h1, h2, by rw [r1.length]; exact h3, newL R (r1.rep _) q k⟩
    | _ => exact False.elim q
  | _ => exact False.elim q

/-! ### order -/
def strLt (a b : Str) : Bool := decide (a.cps.toList < b.cps.toList)
def ltD : DR2 := fun x y w Q => match x, y with
  | .int i, .int j => Q (.bl (decide (i < j))) w
  | .str a, .str b => Q (.bl (decide (a.cps.toList < b.cps.toList))) w
  | _, _ => False
def leD : DR2 := fun x y w Q => match x, y with
  | .int i, .int j => Q (.bl (decide (i ≤ j))) w
  | .str a, .str b => Q (.bl (!decide (b.cps.toList < a.cps.toList))) w
  | _, _ => False
def gtD : DR2 := fun x y w Q => match x, y with
  | .int i, .int j => Q (.bl (decide (j < i))) w
  | .str a, .str b => Q (.bl (decide (b.cps.toList < a.cps.toList))) w
  | _, _ => False
def geD : DR2 := fun x y w Q => match x, y with
  | .int i, .int j => Q (.bl (decide (j ≤ i))) w
  | .str a, .str b => Q (.bl (!decide (a.cps.toList < b.cps.toList))) w
  | _, _ => False
section
variable {X : Cx}
theorem od_lt : OpD X (compareOp .Lt) ltD := by
  refine ⟨_, OpR_or op_lt op_lt_str, fun c g w H x y v u Q Qv R r1 r2 q k => ?_⟩
  cases r1 with
  | int i => cases r2 with
    | int j => exact .inl ⟨i, j, rfl, rfl, k _ _ ⟨g, w, _, .rfl, R, .bl _, q⟩⟩
    | _ => exact False.elim q
  | str i => cases r2 with
    | str j => exact .inr ⟨i, j, rfl, rfl, k _ _ ⟨g, w, _, .rfl, R, .bl _, q⟩⟩
    | _ => exact False.elim q
  | _ => exact False.elim q
theorem od_le : OpD X (compareOp .LtE) leD := by
  refine ⟨_, OpR_or op_le op_le_str, fun c g w H x y v u Q Qv R r1 r2 q k => ?_⟩
  cases r1 with
  | int i => cases r2 with
    | int j => exact .inl ⟨i, j, rfl, rfl, k _ _ ⟨g, w, _, .rfl, R, .bl _, q⟩⟩
    | _ => exact False.elim q
  | str i => cases r2 with
    | str j => exact .inr ⟨i, j, rfl, rfl, k _ _ ⟨g, w, _, .rfl, R, .bl _, q⟩⟩
    | _ => exact False.elim q
  | _ => exact False.elim q
theorem od_gt : OpD X (compareOp .Gt) gtD := by
  refine ⟨_, OpR_or op_gt op_gt_str, fun c g w H x y v u Q Qv R r1 r2 q k => ?_⟩
  cases r1 with
  | int i => cases r2 with
    | int j => exact .inl ⟨i, j, rfl, rfl, k _ _ ⟨g, w, _, .rfl, R, .bl _, q⟩⟩
    | _ => exact False.elim q
  | str i => cases r2 with
    | str j => exact .inr ⟨i, j, rfl, rfl, k _ _ ⟨g, w, _, .rfl, R, .bl _, q⟩⟩
    | _ => exact False.elim q
  | _ => exact False.elim q
theorem od_ge : OpD X (compareOp .GtE) geD := by
  refine ⟨_, OpR_or op_ge op_ge_str, fun c g w H x y v u Q Qv R r1 r2 q k => ?_⟩
  cases r1 with
  | int i => cases r2 with
    | int j => exact .inl ⟨i, j, rfl, rfl, k _ _ ⟨g, w, _, .rfl, R, .bl _, q⟩⟩
    | _ => exact False.elim q
  | str i => cases r2 with
    | str j => exact .inr ⟨i, j, rfl, rfl, k _ _ ⟨g, w, _, .rfl, R, .bl _, q⟩⟩
    | _ => exact False.elim q
  | _ => exact False.elim q
end

/-! ### data -/
mutual
/-- the plain data of a tree -/
def toPy : D → Option PyData
  | .non => some .none
  | .bl b => some (.bool b)
  | .int i => some (.int i)
  | .str x => some (.str x)
  | .lst xs => (toPyL xs).map .list
  | .tup xs => (toPyL xs).map .tuple
  | .dic kvs => (toPyK kvs).map .dict
  | .ty _ | .obj _ _ | .ref _ | .pen | .exc _ _ => none
def toPyL : List D → Option (List PyData)
  | [] => some []
  | x :: xs => (toPy x).bind fun d => (toPyL xs).map (d :: ·)
def toPyK : List (Key × D) → Option (List (PyData × PyData))
  | [] => some []
  | (k, x) :: xs => (toPy x).bind fun d => (toPyK xs).map (((match k with | .inl i => .int i | .inr s => .str s), d) :: ·)
end
mutual
/-- no dict within -/
theorem Rep.dp {K : PySem.W.Frag} {c : Ck} {g : Gh} {w : W} {H : Hp} (R : Rel K c g w H) : ∀ {v : V} {d : D} {p : PyData}, Rep K g v d → toPy d = some p → PyData.hasDict p = false → Dp K H v p
  | _, _, _, .non, e, _ => by simp only [toPy] at e; cases e; exact .non
  | _, _, _, .bl b, e, _ => by simp only [toPy] at e; cases e; exact .bl b
  | _, _, _, .int b, e, _ => by simp only [toPy] at e; cases e; exact .int b
  | _, _, _, .str b, e, _ => by simp only [toPy] at e; cases e; exact .str b
  | _, _, _, .lst s r, e, h => by
    simp only [toPy, Option.map_eq_some_iff] at e
    obtain ⟨ps, e1, rfl⟩ := e
    exact .lst (R.sqL s) (RepL.dp R r e1 (by simpa [PyData.hasDict] using h))
  | _, _, _, .tup s r, e, h => by
    simp only [toPy, Option.map_eq_some_iff] at e
    obtain ⟨ps, e1, rfl⟩ := e
    exact .tup (R.sqT s) (RepL.dp R r e1 (by simpa [PyData.hasDict] using h))
  | _, _, _, .dic s r, e, h => by
    simp only [toPy, Option.map_eq_some_iff] at e
    obtain ⟨ps, e1, rfl⟩ := e
    simp [PyData.hasDict] at h
  | _, _, _, .ty n, e, _ => by simp [toPy] at e
  | _, _, _, .obj _ _ _, e, _ => by simp [toPy] at e
  | _, _, _, .ref _, e, _ => by simp [toPy] at e
  | _, _, _, .pen _, e, _ => by simp [toPy] at e
  | _, _, _, .exc _ _ _ _, e, _ => by simp [toPy] at e
theorem RepL.dp {K : PySem.W.Frag} {c : Ck} {g : Gh} {w : W} {H : Hp} (R : Rel K c g w H) : ∀ {v : List V} {d : List D} {p : List PyData}, RepL K g v d → toPyL d = some p → PyData.hasDictAll p = false → DpAll K H v p
  | _, _, _, .nil, e, _ => by simp only [toPyL] at e; cases e; exact .nil
  | _, _, _, .cons a r, e, h => by
    simp only [toPyL, Option.bind_eq_some_iff, Option.map_eq_some_iff] at e
    obtain ⟨d, e1, ds, e2, rfl⟩ := e
    simp only [PyData.hasDictAll, Bool.or_eq_false_iff] at h
    exact .cons (Rep.dp R a e1 h.1) (RepL.dp R r e2 h.2)
end
/-- == of scalars, or of data without dicts -/
def eqR (neg : Bool) : DR2 := fun x y w Q => match x, y with
  | .str a, .str b => Q (.bl (neg ^^ decide (a = b))) w
  | .int a, .int b => Q (.bl (neg ^^ decide (a = b))) w
  | .bl a, .bl b => Q (.bl (neg ^^ decide (a = b))) w
  | x, y => ∃ d e, toPy x = some d ∧ toPy y = some e ∧ SeqAt.shaped d = true ∧ SeqAt.shaped e = true ∧ Q (.bl (neg ^^ PyData.eqv d e)) w
theorem shaped_noDict {d : PyData} (h : SeqAt.shaped d = true) : PyData.hasDict d = false := by
  unfold SeqAt.shaped at h
  rw [Bool.and_eq_true] at h
  exact PyData.hasDict_of_canLay d h.1
section
variable {X : Cx}
theorem eqRel {g : Gh} {c : Ck} {w : W} {H : Hp} {x y : D} {v u : V} {Q : DK} {Qv : VK} {neg : Bool} (R : Rel X.K c g w H) (r1 : Rep X.K g v x) (r2 : Rep X.K g u y) (q : eqR neg x y w Q) (k : ∀ v H', PQ X.K c g Q v H' → Qv v H') :
    (scal v u = true ∧ Qv (.bl (neg ^^ decide (v = u))) H) ∨ (∃ d e, Dp X.K H v d ∧ Dp X.K H u e ∧ SeqAt.shaped d = true ∧ SeqAt.shaped e = true ∧ Qv (.bl (neg ^^ PyData.eqv d e)) H) := by
  have fin : ∀ b, Q (.bl b) w → Qv (.bl b) H := fun b z => k _ _ ⟨g, w, _, .rfl, R, .bl b, z⟩
  have gen : (∃ d e, toPy x = some d ∧ toPy y = some e ∧ SeqAt.shaped d = true ∧ SeqAt.shaped e = true ∧ Q (.bl (neg ^^ PyData.eqv d e)) w) →
      ∃ d e, Dp X.K H v d ∧ Dp X.K H u e ∧ SeqAt.shaped d = true ∧ SeqAt.shaped e = true ∧ Qv (.bl (neg ^^ PyData.eqv d e)) H := fun ⟨d, e, h1, h2, h3, h4, h5⟩ =>
    ⟨d, e, r1.dp R h1 (shaped_noDict h3), r2.dp R h2 (shaped_noDict h4), h3, h4, fin _ h5⟩
  unfold eqR at q
  split at q
  · cases r1; cases r2
    refine .inl ⟨rfl, fin _ ?_⟩
    simpa using q
  · cases r1; cases r2
    refine .inl ⟨rfl, fin _ ?_⟩
    simpa using q
  · cases r1; cases r2
    refine .inl ⟨rfl, fin _ ?_⟩
    simpa using q
  · exact .inr (gen q)
theorem od_eq (hu : X.A.units + 64 < cLine) : OpD X (compareOp .Eq) (eqR false) := by
  refine ⟨_, OpR_or op_eq (op_eqD hu), fun c g w H x y v u Q Qv R r1 r2 q k => ?_⟩
  have z := eqRel R r1 r2 q k
  simp only [Bool.false_bne] at z
  exact z
theorem od_ne (hu : X.A.units + 64 < cLine) : OpD X (compareOp .NotEq) (eqR true) := by
  refine ⟨_, OpR_or op_ne (op_neD hu), fun c g w H x y v u Q Qv R r1 r2 q k => ?_⟩
  have z := eqRel R r1 r2 q k
  simp only [Bool.true_bne] at z
  exact z
theorem od_is : OpD X (compareOp .Is) fun x y w Q => match y with
    | .non => Q (.bl (match x with | .non => true | _ => false)) w
    | _ => False := ⟨_, op_isN, fun c g w H x y v u Q Qv R r1 r2 q k => by
  cases r2 with
  | non => exact ⟨rfl, by cases r1 <;> exact k _ _ ⟨g, w, _, .rfl, R, .bl _, q⟩⟩
  | _ => exact False.elim q⟩
theorem od_isnot : OpD X (compareOp .IsNot) fun x y w Q => match y with
    | .non => Q (.bl (match x with | .non => false | _ => true)) w
    | _ => False := ⟨_, op_notN, fun c g w H x y v u Q Qv R r1 r2 q k => by
  cases r2 with
  | non => exact ⟨rfl, by cases r1 <;> exact k _ _ ⟨g, w, _, .rfl, R, .bl _, q⟩⟩
  | _ => exact False.elim q⟩
end
end DL

/-! DLf: subscripts, in, slices, built-ins over trees. -/
namespace DL
open PySem PySem.Spec PyProof.Rows L2

/-! ### keys -/
def kD : Key → D
  | .inl i => .int i
  | .inr x => .str x
def keyOf : D → Option Key
  | .int i => some (.inl i)
  | .str x => some (.inr x)
  | _ => none
theorem keyOf_kD (k : Key) : keyOf (kD k) = some k := by cases k <;> rfl
def valD {κ : Type} [DecidableEq κ] (kvs : List (κ × D)) (k : κ) : Option D := (kvs.find? fun kv => decide (kv.1 = k)).map (·.2)
section
variable {K : PySem.W.Frag} {g : Gh}
theorem Rep.key {v : V} {d : D} {k : Key} (r : Rep K g v d) (h : keyOf d = some k) : v = kV k ∧ d = kD k := by
  cases r <;> simp only [keyOf, reduceCtorEq, Option.some.injEq] at h
  · subst h; exact ⟨rfl, rfl⟩
  · subst h; exact ⟨rfl, rfl⟩
theorem RepK.val : ∀ {xs : List (Key × V)} {ds : List (Key × D)} (k : Key), RepK K g xs ds → (valV xs k = none ∧ valD ds k = none) ∨ ∃ v d, valV xs k = some v ∧ valD ds k = some d ∧ Rep K g v d
  | _, _, k, .nil => .inl ⟨rfl, rfl⟩
  | _, _, k, @RepK.cons _ _ k' v vs d ds a r => by
    by_cases e : k' = k
    · refine .inr ⟨v, d, ?_, ?_, a⟩
      · unfold valV; rw [List.find?_cons_of_pos (by simpa using e)]; rfl
      · unfold valD; rw [List.find?_cons_of_pos (by simpa using e)]; rfl
    · have h1 : valV ((k', v) :: vs) k = valV vs k := by unfold valV; rw [List.find?_cons_of_neg (by simpa using e)]
      have h2 : valD ((k', d) :: ds) k = valD ds k := by unfold valD; rw [List.find?_cons_of_neg (by simpa using e)]
      rw [h1, h2]
      exact RepK.val k r
theorem RepK.keys : ∀ {xs : List (Key × V)} {ds : List (Key × D)}, RepK K g xs ds → xs.map (·.1) = ds.map (·.1)
  | _, _, .nil => rfl
  | _, _, .cons _ r => by rw [List.map_cons, List.map_cons, RepK.keys r]
theorem repKeys : ∀ (xs : List Key), RepL K g (xs.map kV) (xs.map kD)
  | [] => .nil
  | .inl i :: xs => .cons (.int i) (repKeys xs)
  | .inr i :: xs => .cons (.str i) (repKeys xs)
theorem RepL.atI {v : List V} {d : List D} {i : Int} {x : D} (r : RepL K g v d) (h : L2.atI d i = some x) : ∃ u, L2.atI v i = some u ∧ Rep K g u x := by
  unfold L2.atI at h ⊢
  rw [r.length]
  cases e : ixN d.length i with
  | none => rw [e] at h; cases h
  | some j =>
    rw [e] at h
    exact r.get h
end
theorem Rel.rdic {K : PySem.W.Frag} {c : Ck} {g : Gh} {w : W} {H : Hp} (R : Rel K c g w H) {a : Addr} {xs : List (Key × V)} (h : g.G a = some (.dK xs)) : Rd H a (.dK xs) := R.rd h

/-! ### subscripts -/
def subD : DR2 := fun x y w Q => match x, y with
  | .lst xs, .int i => ∃ d, atI xs i = some d ∧ Q d w
  | .tup xs, .int i => ∃ d, atI xs i = some d ∧ Q d w
  | .str z, .int i => z.length ≤ sizeLine ∧ ∃ c, atI z.cps.toList i = some c ∧ Q (.str ⟨#[c]⟩) w
  | .dic kvs, k => ∃ q d, keyOf k = some q ∧ valD kvs q = some d ∧ Q d w
  | .ref p, k => (∃ xs i d, w.m p = some (.lst xs) ∧ k = .int i ∧ atI xs i = some d ∧ Q d w) ∨ ∃ kvs q d, w.m p = some (.dic kvs) ∧ keyOf k = some q ∧ valD kvs q = some d ∧ Q d w
  | _, _ => False
def ImpD (K : PySem.W.Frag) (r0 : R2) (r : DR2) : Prop := ∀ c g w H x y v u Q Qv, Rel K c g w H → Rep K g v x → Rep K g u y → r x y w Q → (∀ v H', PQ K c g Q v H' → Qv v H') → r0 v u H Qv
def rIxD : R2 := fun x y H Q => ∃ a v, x = .ref a ∧ DGet H a y (some v) ∧ Q v H
theorem ix_dict {X : Cx} (hu : X.A.units + 1 < cLine) : IxR X rIxD := by
  intro value slice pins s σ H x y v u Q I rx ry h hs
  obtain ⟨a, z, rfl, g, q⟩ := h
  cases rx
  exact tail_any (dict_typeIs I g) PySem.F.slot_dict_getitem.lookup (d_getItem hu I g ry fun w' s' I' rw' => ⟨z, H, I', rw', q⟩) hs
theorem sub_imp {K : PySem.W.Frag} : ImpD K (fun x y H Q => rIx K x y H Q ∨ rIxD x y H Q) subD := by
  intro c g w H x y v u Q Qv R r1 r2 q k
  have fin : ∀ {v : V} {d : D}, Rep K g v d → Q d w → Qv v H := fun r z => k _ _ ⟨g, w, _, .rfl, R, r, z⟩
  cases r1 with
  | lst s1 r1 => cases r2 with
    | int i =>
      obtain ⟨d, e, q2⟩ := (show ∃ d, _ ∧ _ from q)
      obtain ⟨u, e1, ru⟩ := r1.atI e
      exact .inl (.inl ⟨_, _, _, _, rfl, rfl, R.sqL s1, e1, fin ru q2⟩)
    | _ => exact False.elim q
  | tup s1 r1 => cases r2 with
    | int i =>
      obtain ⟨d, e, q2⟩ := (show ∃ d, _ ∧ _ from q)
      obtain ⟨u, e1, ru⟩ := r1.atI e
      exact .inl (.inr (.inl ⟨_, _, _, _, rfl, rfl, R.sqT s1, e1, fin ru q2⟩))
    | _ => exact False.elim q
  | str z => cases r2 with
    | int i =>
      obtain ⟨hz, ch, e, q2⟩ := (show _ ∧ ∃ c, _ ∧ _ from q)
      exact .inl (.inr (.inr ⟨_, _, _, rfl, rfl, hz, e, fin (.str _) q2⟩))
    | _ => exact False.elim q
  | dic s1 r1 =>
    obtain ⟨ky, d, e1, e2, q2⟩ := (show ∃ q d, _ ∧ _ ∧ _ from q)
    obtain ⟨rfl, rfl⟩ := r2.key e1
    rcases r1.val ky with ⟨_, z⟩ | ⟨v', d', z1, z2, r'⟩
    · rw [e2] at z; cases z
    · rw [e2] at z2; cases z2
      exact .inr ⟨_, _, rfl, .inl ⟨_, ky, R.rdic s1, rfl, z1.symm⟩, fin r' q2⟩
  | ref p =>
    rcases (show (∃ xs i d, _) ∨ ∃ kvs q d, _ from q) with ⟨xs, i, d, e1, rfl, e2, q2⟩ | ⟨kvs, ky, d, e0, e1, e2, q2⟩
    · cases r2
      obtain ⟨vs, e3, r1⟩ := R.mlst e1
      obtain ⟨u, e4, ru⟩ := r1.atI e2
      exact .inl (.inl ⟨_, _, _, _, rfl, rfl, SqL.of e3, e4, fin ru q2⟩)
    · obtain ⟨rfl, rfl⟩ := r2.key e1
      obtain ⟨vs, e3, r1⟩ := R.mdic e0
      rcases r1.val ky with ⟨_, z⟩ | ⟨v', d', z1, z2, r'⟩
      · rw [e2] at z; cases z
      · rw [e2] at z2; cases z2
        exact .inr ⟨_, _, rfl, .inl ⟨_, ky, .inl e3, rfl, z1.symm⟩, fin r' q2⟩
  | _ => exact False.elim q
section
variable {X : Cx} {Wv : WX} {a b : Expr} {ta tb : DTE} {pos : Pos}
theorem de_sub (hu : X.A.units + 1 < cLine) (ha : DE X Wv a ta) (hb : DE X Wv b tb) (hs : PlainIx b := by exact fun _ _ => rfl) : DE X Wv (.Subscript a b pos) (dOp subD ta tb) :=
  ⟨PE_imp (pe_ix (ix_seq.or (ix_dict hu)) ha.pe hb.pe hs) fun σ H Qv h => dop_lift sub_imp h⟩
end

/-! ### in -/
def scalD : D → Bool
  | .non | .bl _ | .int _ | .str _ => true
  | _ => false
def eqS : D → D → Bool
  | .non, .non => true
  | .bl a, .bl b => a == b
  | .bl a, .int b => (if a then 1 else 0) == b
  | .int a, .bl b => a == (if b then 1 else 0)
  | .int a, .int b => a == b
  | .str a, .str b => a == b
  | _, _ => false
def inS (a b : Str) : Bool := !(Builtin.Str.occurrences b a 0 b.length 1).isEmpty
theorem inS_one (c : Nat) (z : Str) : inS ⟨#[c]⟩ z = decide (c ∈ z.cps.toList) := (PySem.StrLaws.found_one z c)
def memS (x : D) (xs : List D) : Bool := xs.any fun y => eqS y x
def inR (neg : Bool) : DR2 := fun x y w Q => match y with
  | .str b => (match x with | .str a => Q (.bl (neg ^^ inS a b)) w | _ => False)
  | .lst xs => (scalD x && xs.all scalD) = true ∧ Q (.bl (neg ^^ memS x xs)) w
  | .tup xs => (scalD x && xs.all scalD) = true ∧ Q (.bl (neg ^^ memS x xs)) w
  | .dic kvs => ∃ k, keyOf x = some k ∧ Q (.bl (neg ^^ (valD kvs k).isSome)) w
  | .ref p => (∃ xs, w.m p = some (.lst xs) ∧ (scalD x && xs.all scalD) = true ∧ Q (.bl (neg ^^ memS x xs)) w) ∨ ∃ kvs k, w.m p = some (.dic kvs) ∧ keyOf x = some k ∧ Q (.bl (neg ^^ (valD kvs k).isSome)) w
  | _ => False
section
variable {K : PySem.W.Frag} {g : Gh}
theorem Rep.flat {v : V} {d : D} (r : Rep K g v d) (h : scalD d = true) : flatV v = true := by
  cases r <;> first | rfl | (simp [scalD] at h)
theorem RepL.flat : ∀ {v : List V} {d : List D}, RepL K g v d → d.all scalD = true → v.all flatV = true
  | _, _, .nil, _ => rfl
  | _, _, .cons a r, h => by
    rw [List.all_cons, Bool.and_eq_true] at h
    rw [List.all_cons, a.flat h.1, RepL.flat r h.2]
    rfl
theorem Rep.eqS {v u : V} {d e : D} (r : Rep K g v d) (q : Rep K g u e) (h : scalD d = true) (h' : scalD e = true) : eqV v u = eqS d e := by
  cases r <;> first | (simp [scalD] at h; done) | (cases q <;> first | rfl | (simp [scalD] at h'; done))
theorem RepL.memS {x : V} {d : D} (q : Rep K g x d) (h' : scalD d = true) : ∀ {v : List V} {ds : List D}, RepL K g v ds → ds.all scalD = true → inV x v = memS d ds
  | _, _, .nil, _ => rfl
  | _, _, .cons a r, h => by
    rw [List.all_cons, Bool.and_eq_true] at h
    show (eqV _ x || _) = (eqS _ d || _)
    rw [a.eqS q h.1 h']
    exact congrArg _ (RepL.memS q h' r h.2)
end
def rInAny (K : PySem.W.Frag) (neg : Bool) : R2 := fun x y H Q => (∃ i j, x = .str i ∧ y = .str j ∧ Q (.bl (neg ^^ inS i j)) H) ∨ (∃ p xs, y = .ref p ∧ (SqL K H p xs ∨ SqT K H p xs) ∧ flatV x = true ∧ xs.all flatV = true ∧ Q (.bl (neg ^^ inV x xs)) H) ∨
  ∃ a o, y = .ref a ∧ DGet H a x o ∧ Q (.bl (neg ^^ o.isSome)) H
theorem op_inAny {X : Cx} (hu : X.A.units + 1 < cLine) : OpR X (compareOp .In) (rInAny X.K false) := by
  intro pins s σ H x y v u Q I rx ry h
  simp only [rInAny, Bool.false_bne] at h
  rcases h with ⟨i, j, rfl, rfl, q⟩ | ⟨p, xs, rfl, h1, h2, h3, q⟩ | ⟨a, o, rfl, g, q⟩
  · exact op_in_str pins s σ H _ _ v u Q I rx ry ⟨i, j, rfl, rfl, q⟩
  · exact op_in_seq pins s σ H _ _ v u Q I rx ry ⟨p, xs, rfl, h1, h2, h3, by rw [if_neg Bool.false_ne_true]; exact q⟩
  · cases ry
    exact d_in hu I g rx fun s' I' => ⟨.bl _, H, I', rfl, q⟩
theorem op_notInAny {X : Cx} (hu : X.A.units + 1 < cLine) : OpR X (compareOp .NotIn) (rInAny X.K true) := by
  intro pins s σ H x y v u Q I rx ry h
  simp only [rInAny, Bool.true_bne] at h
  rcases h with ⟨i, j, rfl, rfl, q⟩ | ⟨p, xs, rfl, h1, h2, h3, q⟩ | ⟨a, o, rfl, g, q⟩
  · exact op_notIn_str pins s σ H _ _ v u Q I rx ry ⟨i, j, rfl, rfl, q⟩
  · exact op_notIn_seq pins s σ H _ _ v u Q I rx ry ⟨p, xs, rfl, h1, h2, h3, by rw [if_pos rfl]; exact q⟩
  · cases ry
    exact d_notIn hu I g rx fun s' I' => ⟨.bl _, H, I', rfl, q⟩
theorem in_imp {K : PySem.W.Frag} (neg : Bool) : ImpD K (rInAny K neg) (inR neg) := by
  intro c g w H x y v u Q Qv R r1 r2 q k
  have fin : ∀ b, Q (.bl b) w → Qv (.bl b) H := fun b z => k _ _ ⟨g, w, _, .rfl, R, .bl b, z⟩
  have dics : ∀ {a : Addr} {xs : List (Key × V)} {ds : List (Key × D)}, Rd H a (.dK xs) → RepK K g xs ds → (∃ ky, keyOf x = some ky ∧ Q (.bl (neg ^^ (valD ds ky).isSome)) w) → ∃ a' o, V.ref a = .ref a' ∧ DGet H a' v o ∧ Qv (.bl (neg ^^ o.isSome)) H :=
    fun {a xs ds} hr r ⟨ky, e, z⟩ => by
      obtain ⟨rfl, _⟩ := r1.key e
      refine ⟨a, _, rfl, .inl ⟨xs, ky, hr, rfl, rfl⟩, ?_⟩
      rcases r.val ky with ⟨z1, z2⟩ | ⟨v', d', z1, z2, _⟩
      · rw [z2] at z; rw [z1]; exact fin _ z
      · rw [z2] at z; rw [z1]; exact fin _ z
  cases r2 with
  | str b => cases r1 with
    | str a => exact .inl ⟨_, _, rfl, rfl, fin _ q⟩
    | _ => exact False.elim q
  | lst s r =>
    obtain ⟨h, q⟩ := (show _ ∧ _ from q)
    rw [Bool.and_eq_true] at h
    exact .inr (.inl ⟨_, _, rfl, .inl (R.sqL s), r1.flat h.1, r.flat h.2, by rw [r.memS r1 h.1 h.2]; exact fin _ q⟩)
  | tup s r =>
    obtain ⟨h, q⟩ := (show _ ∧ _ from q)
    rw [Bool.and_eq_true] at h
    exact .inr (.inl ⟨_, _, rfl, .inr (R.sqT s), r1.flat h.1, r.flat h.2, by rw [r.memS r1 h.1 h.2]; exact fin _ q⟩)
  | dic s r => exact .inr (.inr (dics (R.rdic s) r q))
  | ref p =>
    rcases (show (∃ xs, _) ∨ ∃ kvs k, _ from q) with ⟨xs, e, h, q⟩ | ⟨kvs, ky, e, h, q⟩
    · obtain ⟨vs, e1, r⟩ := R.mlst e
      rw [Bool.and_eq_true] at h
      exact .inr (.inl ⟨_, _, rfl, .inl (SqL.of e1), r1.flat h.1, r.flat h.2, by rw [r.memS r1 h.1 h.2]; exact fin _ q⟩)
    · obtain ⟨vs, e1, r⟩ := R.mdic e
      exact .inr (.inr (dics (.inl e1) r ⟨ky, h, q⟩))
  | _ => exact False.elim q
theorem od_in {X : Cx} (hu : X.A.units + 1 < cLine) : OpD X (compareOp .In) (inR false) := ⟨_, op_inAny hu, in_imp false⟩
theorem od_notin {X : Cx} (hu : X.A.units + 1 < cLine) : OpD X (compareOp .NotIn) (inR true) := ⟨_, op_notInAny hu, in_imp true⟩

/-! ### built-ins by name -/
abbrev DRC := List D → W → DK → Prop
def CallD (X : Cx) (f : Value) (r : DRC) : Prop := ∃ r0, CallR X f r0 ∧ ∀ c g w H vs ds Q Qv, Rel X.K c g w H → RepL X.K g vs ds → r ds w Q → (∀ v H', PQ X.K c g Q v H' → Qv v H') → r0 vs H Qv
def dCB (r : DRC) (t : DTA) : DTE := fun env w Q => t env w fun xs w1 => r xs w1 Q
section
variable {X : Cx} {Wv : WX} {x : Str} {p pos : Pos} {e : Expr} {es : List Expr} {t : DTA} {id T : String} {r : DRC}
theorem de_callB (hc : CallD X (.builtin id) r) (hm : X.mg x = none) (ha : DA X Wv (e :: es) t) (hg : Gl X x := by rfl) (hv : bootBuiltins x = some (.builtin id) := by decide +kernel) (hn : x ≠ "__name__" := by decide) (hdb : (x == ("__debug__" : Str)) = false := by decide)
    (he : starEach (e :: es) X.env = (false, eval e X.env) :: starEach es X.env := by rfl) (hpl : (backTo pos (starEach es X.env)).any (·.1) = false := by rfl) : DE X Wv (.Call (.Name x p) (e :: es) [] pos) (dCB r t) := by
  obtain ⟨r0, h0, imp⟩ := hc
  exact ⟨PE_imp (pe_callB h0 hg hm hv ha.pa hn hdb he hpl) fun σ H Qv ⟨c, g, env, w, Q, B, q, k⟩ => bindA B q fun vs H1 g1 w1 xs l1 B1 r1 q1 => imp c g1 w1 H1 vs xs Q Qv B1.R r1 q1 fun v H' z => k v H' (z.up l1)⟩
theorem de_callTy (hc : CallD X (.type T) r) (hm : X.mg x = none) (ha : DA X Wv (e :: es) t) (hg : Gl X x := by rfl) (hv : bootBuiltins x = some (.type T) := by decide +kernel) (hn : x ≠ "__name__" := by decide) (hdb : (x == ("__debug__" : Str)) = false := by decide)
    (he : starEach (e :: es) X.env = (false, eval e X.env) :: starEach es X.env := by rfl) (hpl : (backTo pos (starEach es X.env)).any (·.1) = false := by rfl) : DE X Wv (.Call (.Name x p) (e :: es) [] pos) (dCB r t) := by
  obtain ⟨r0, h0, imp⟩ := hc
  exact ⟨PE_imp (pe_callTy h0 hg hm hv ha.pa hn hdb he hpl) fun σ H Qv ⟨c, g, env, w, Q, B, q, k⟩ => bindA B q fun vs H1 g1 w1 xs l1 B1 r1 q1 => imp c g1 w1 H1 vs xs Q Qv B1.R r1 q1 fun v H' z => k v H' (z.up l1)⟩
/-- a built-in type as a value -/
theorem de_ty {n : String} (hm : X.mg x = none) (hg : Gl X x := by rfl) (hv : bootBuiltins x = some (.type n) := by decide +kernel) (hn : x ≠ "__name__" := by decide) (hdb : (x == ("__debug__" : Str)) = false := by decide) : DE X Wv (.Name x pos) (dC (.ty n)) :=
  de_c (pe_bltn (v := .ty n) hg hm hv rfl hn hdb) fun _ => .ty n
/-- a class, a def of the module as a value -/
theorem de_ref {a : Addr} (hm : X.mg x = some (.ref a)) (hg : Gl X x := by rfl) (hdb : (x == ("__debug__" : Str)) = false := by decide) : DE X Wv (.Name x pos) (dC (.ref a)) := de_glob (v := .ref a) hg hm rfl (fun _ => .ref a) hdb
end
theorem RepL.one {K : PySem.W.Frag} {g : Gh} {vs : List V} {d : D} (r : RepL K g vs [d]) : ∃ v, vs = [v] ∧ Rep K g v d := by
  cases r with
  | cons a r => cases r; exact ⟨_, rfl, a⟩
theorem RepL.two {K : PySem.W.Frag} {g : Gh} {vs : List V} {d e : D} (r : RepL K g vs [d, e]) : ∃ v u, vs = [v, u] ∧ Rep K g v d ∧ Rep K g u e := by
  cases r with
  | cons a r => cases r with
    | cons b r => cases r; exact ⟨_, _, rfl, a, b⟩
def lenR : DRC := fun xs w Q => match xs with
  | [.str z] => z.length ≤ sizeLine ∧ Q (.int z.length) w
  | [.lst xs] => Q (.int xs.length) w
  | [.tup xs] => Q (.int xs.length) w
  | [.dic kvs] => Q (.int kvs.length) w
  | [.ref p] => (∃ xs, w.m p = some (.lst xs) ∧ Q (.int xs.length) w) ∨ ∃ kvs, w.m p = some (.dic kvs) ∧ Q (.int kvs.length) w
  | _ => False
def lenDR : List V → Hp → VK → Prop := fun xs H Q => ∃ a kvs, xs = [V.ref a] ∧ Rd H a (.dK kvs) ∧ Q (.int kvs.length) H
theorem call_lenDR {X : Cx} : CallR X (.builtin "len") lenDR := by
  intro pins s σ H xs us Q I r h
  obtain ⟨a, kvs, rfl, ha, q⟩ := h
  obtain ⟨u, rfl, ru⟩ := vals1 r
  cases ru
  exact d_len I ha fun t s' I' => ⟨.int kvs.length, H, I', ⟨t, rfl⟩, q⟩
theorem cd_len {X : Cx} : CallD X (.builtin "len") lenR := by
  refine ⟨_, CallR_or call_len call_lenDR, fun c g w H vs ds Q Qv R r q k => ?_⟩
  have fin : ∀ i, Q (.int i) w → Qv (.int i) H := fun b z => k _ _ ⟨g, w, _, .rfl, R, .int b, z⟩
  unfold lenR at q
  split at q
  · obtain ⟨v, rfl, a⟩ := r.one; cases a; exact .inl ⟨_, _, rfl, ⟨q.1, rfl⟩, fin _ q.2⟩
  · obtain ⟨v, rfl, a⟩ := r.one; cases a with
    | lst s r => exact .inl ⟨_, _, rfl, .inl ⟨_, R.sqL s, rfl⟩, by rw [r.length]; exact fin _ q⟩
  · obtain ⟨v, rfl, a⟩ := r.one; cases a with
    | tup s r => exact .inl ⟨_, _, rfl, .inr ⟨_, R.sqT s, rfl⟩, by rw [r.length]; exact fin _ q⟩
  · obtain ⟨v, rfl, a⟩ := r.one; cases a with
    | dic s r => exact .inr ⟨_, _, rfl, R.rdic s, by rw [r.length]; exact fin _ q⟩
  · obtain ⟨v, rfl, a⟩ := r.one; cases a
    rcases q with ⟨xs, e, q⟩ | ⟨xs, e, q⟩
    · obtain ⟨vs, e1, r⟩ := R.mlst e
      exact .inl ⟨_, _, rfl, .inl ⟨_, SqL.of e1, rfl⟩, by rw [r.length]; exact fin _ q⟩
    · obtain ⟨vs, e1, r⟩ := R.mdic e
      exact .inr ⟨_, _, rfl, .inl e1, by rw [r.length]; exact fin _ q⟩
  · exact q.elim
/-- all(..), any(..) of a list of bools -/
def blsOf : List D → Option (List Bool)
  | [] => some []
  | .bl b :: r => (blsOf r).map (b :: ·)
  | _ => none
theorem RepL.bls {K : PySem.W.Frag} {g : Gh} : ∀ {vs : List V} {ds : List D} {bs : List Bool}, RepL K g vs ds → blsOf ds = some bs → vs = bs.map V.bl
  | _, _, _, .nil, e => by cases e; rfl
  | _, _, _, .cons a r, e => by
    cases a <;> simp only [blsOf, Option.map_eq_some_iff, reduceCtorEq] at e
    obtain ⟨bs, e1, rfl⟩ := e
    rw [RepL.bls r e1]; rfl
theorem blsOf_map (bs : List Bool) : blsOf (bs.map D.bl) = some bs := by
  induction bs with
  | nil => rfl
  | cons b r ih => simp [blsOf, ih]
def allR0 : DRC := fun xs w Q => match xs with
  | [.lst xs] => ∃ bs, blsOf xs = some bs ∧ Q (.bl (bs.all id)) w
  | _ => False
def anyR0 : DRC := fun xs w Q => match xs with
  | [.lst xs] => ∃ bs, blsOf xs = some bs ∧ Q (.bl (bs.any id)) w
  | _ => False
theorem cd_all0 {X : Cx} (hc : X.calm = true) : CallD X (.builtin "all") allR0 := by
  refine ⟨_, cr_all hc, fun c g w H vs ds Q Qv R r q k => ?_⟩
  unfold allR0 at q
  split at q
  · obtain ⟨v, rfl, a⟩ := r.one
    obtain ⟨bs, e, q⟩ := q
    cases a with
    | lst s r =>
      have z := r.bls e
      subst z
      exact ⟨_, bs, rfl, R.sqL s, k _ _ ⟨g, w, _, .rfl, R, .bl _, q⟩⟩
  · exact q.elim
theorem cd_any0 {X : Cx} (hc : X.calm = true) : CallD X (.builtin "any") anyR0 := by
  refine ⟨_, cr_any hc, fun c g w H vs ds Q Qv R r q k => ?_⟩
  unfold anyR0 at q
  split at q
  · obtain ⟨v, rfl, a⟩ := r.one
    obtain ⟨bs, e, q⟩ := q
    cases a with
    | lst s r =>
      have z := r.bls e
      subst z
      exact ⟨_, bs, rfl, R.sqL s, k _ _ ⟨g, w, _, .rfl, R, .bl _, q⟩⟩
  · exact q.elim
/-- as a word that does not open by itself -/
structure allR (xs : List D) (w : W) (Q : DK) : Prop where
  q : allR0 xs w Q
structure anyR (xs : List D) (w : W) (Q : DK) : Prop where
  q : anyR0 xs w Q
theorem cd_all {X : Cx} (hc : X.calm = true) : CallD X (.builtin "all") allR :=
  let ⟨r0, h, i⟩ := cd_all0 (X := X) hc; ⟨r0, h, fun c g w H vs ds Q Qv R r q k => i c g w H vs ds Q Qv R r q.q k⟩
theorem cd_any {X : Cx} (hc : X.calm = true) : CallD X (.builtin "any") anyR :=
  let ⟨r0, h, i⟩ := cd_any0 (X := X) hc; ⟨r0, h, fun c g w H vs ds Q Qv R r q k => i c g w H vs ds Q Qv R r q.q k⟩
end DL

/-! DLg: slices, methods, isinstance, repr over trees. -/
namespace DL
open PySem PySem.Spec PyProof.Rows L2

/-! ### slices -/
abbrev DTO := En → W → (Option Int → W → Prop) → Prop
def liftO (K : PySem.W.Frag) (Wv : WX) (t : DTO) : TO := fun σ H Qv => ∃ c g env w Q, Bx K Wv c g env w σ H ∧ t env w Q ∧ ∀ o H', (∃ g' w', g.le g' ∧ Rel K c g' w' H' ∧ Q o w') → Qv o H'
structure DO (X : Cx) (Wv : WX) (e : Option Expr) (t : DTO) : Prop where
  po : PO X e (liftO X.K Wv t)
def dNo : DTO := fun _ w Q => Q none w
def dPart (t : DTE) : DTO := fun env w Q => t env w fun x w1 => match x with
  | .int i => Q (some i) w1
  | _ => False
theorem PO_imp {X : Cx} {e : Option Expr} {t t' : TO} (h : PO X e t) (i : ∀ σ H Q, t' σ H Q → t σ H Q) : PO X e t' := ⟨fun pins s σ H Q I q => h.run pins s σ H Q I (i σ H Q q)⟩
def cutD (xs : List D) (lo hi : Option Int) : List D := (xs.drop (HT.sIx xs.length 0 lo)).take (HT.sIx xs.length xs.length hi - HT.sIx xs.length 0 lo)
def slR : D → Option Int → Option Int → W → DK → Prop := fun x lo hi w Q => match x with
  | .str z => z.length ≤ sizeLine ∧ Q (.str (cutS z lo hi)) w
  | .lst xs => Q (.lst (cutD xs lo hi)) w
  | .tup xs => Q (.tup (cutD xs lo hi)) w
  | .ref p => ∃ xs, w.m p = some (.lst xs) ∧ Q (.lst (cutD xs lo hi)) w
  | _ => False
def dSl (t : DTE) (tl th : DTO) : DTE := fun env w Q => t env w fun x w1 => tl env w1 fun l w2 => th env w2 fun h w3 => slR x l h w3 Q
section
variable {X : Cx} {Wv : WX} {e : Expr} {te : DTE} {lo hi : Option Expr} {tl th : DTO} {pos p2 : Pos}
theorem do_none : DO X Wv none dNo := ⟨PO_imp po_none fun σ H Qv ⟨c, g, env, w, Q, B, q, k⟩ => k none H ⟨g, w, .rfl, B.R, q⟩⟩
theorem do_some (h : DE X Wv e te) : DO X Wv (some e) (dPart te) := ⟨PO_imp (po_some h.pe) fun σ H Qv ⟨c, g, env, w, Q, B, q, k⟩ => bindE B q fun v H1 g1 w1 x l1 B1 r1 q1 => by
  cases r1 with
  | int i => exact ⟨i, rfl, k _ _ ⟨g1, w1, l1, B1.R, q1⟩⟩
  | _ => exact False.elim q1⟩
theorem RepL.cut {K : PySem.W.Frag} {g : Gh} {xs : List V} {ds : List D} (r : RepL K g xs ds) (lo hi : Option Int) : RepL K g (cutV xs lo hi) (cutD ds lo hi) := by
  unfold cutV cutD
  rw [r.length]
  exact (r.drop _).take _
theorem sIx_whole {xs : List D} {lo hi : Option Int} (h : HT.sIx xs.length 0 lo = 0 ∧ HT.sIx xs.length xs.length hi = xs.length) : cutD xs lo hi = xs := by
  unfold cutD
  rw [h.1, h.2]
  simp
theorem de_slice (he : DE X Wv e te) (hl : DO X Wv lo tl) (hu : DO X Wv hi th) : DE X Wv (.Subscript e (.Slice lo hi none p2) pos) (dSl te tl th) := by
  refine ⟨PE_imp (pe_slice (sl_str.or (sl_list.or sl_tupA)) he.pe hl.po hu.po) fun σ H Qv ⟨c, g, env, w, Q, B, q, k⟩ => ?_⟩
  refine bindE B q fun v H1 g1 w1 x l1 B1 r1 q1 => ⟨c, g1, env, w1, _, B1, q1, fun l H2 ⟨g2, w2, l2, R2, q2⟩ => ⟨c, g2, env, w2, _, B1.step l2 R2, q2, fun h H3 ⟨g3, w3, l3, R3, q3⟩ => ?_⟩⟩
  have r1 := r1.le (l2.trans l3)
  have k3 : ∀ v H', PQ X.K c g3 Q v H' → Qv v H' := fun v H' z => k v H' (((z.up l3).up l2).up l1)
  cases r1 with
  | str z =>
    obtain ⟨hz, q3⟩ := (show _ ∧ _ from q3)
    exact .inl ⟨_, rfl, hz, k3 _ _ ⟨g3, w3, _, .rfl, R3, .str _, q3⟩⟩
  | lst s r => exact .inr (.inl ⟨_, _, rfl, R3.sqL s, newL R3 (r.cut l h) q3 k3⟩)
  | tup s r =>
    refine .inr (.inr ⟨_, _, rfl, R3.sqT s, fun hw => ?_, fun _ => newT R3 (r.cut l h) q3 k3⟩)
    rw [r.length] at hw
    refine k3 _ _ ⟨g3, w3, _, .rfl, R3, .tup s r, ?_⟩
    have q3 : Q (.tup (cutD _ l h)) w3 := q3
    rw [sIx_whole hw] at q3
    exact q3
  | ref p =>
    obtain ⟨xs, e, q3⟩ := (show ∃ xs, _ ∧ _ from q3)
    obtain ⟨vs, e1, r⟩ := R3.mlst e
    exact .inr (.inl ⟨_, _, rfl, SqL.of e1, newL R3 (r.cut l h) q3 k3⟩)
  | _ => exact False.elim q3
end

/-! ### list(..), tuple(..) -/
def listR : DRC := fun xs w Q => match xs with
  | [.lst xs] => Q (.lst xs) w
  | [.tup xs] => Q (.lst xs) w
  | [.dic kvs] => Q (.lst (kvs.map fun kv => kD kv.1)) w
  | [.ref p] => (∃ xs, w.m p = some (.lst xs) ∧ Q (.lst xs) w) ∨ ∃ kvs, w.m p = some (.dic kvs) ∧ Q (.lst (kvs.map fun kv => kD kv.1)) w
  | _ => False
/-- a list that will change -/
def listMR : DRC := fun xs w Q => match xs with
  | [.lst xs] => ∀ p, w.m p = none → Q (.ref p) (w.put p (.lst xs))
  | [.tup xs] => ∀ p, w.m p = none → Q (.ref p) (w.put p (.lst xs))
  | [.dic kvs] => ∀ p, w.m p = none → Q (.ref p) (w.put p (.lst (kvs.map fun kv => kD kv.1)))
  | _ => False
def tupleR : DRC := fun xs w Q => match xs with
  | [.lst xs] => Q (.tup xs) w
  | [.tup xs] => Q (.tup xs) w
  | [.ref p] => ∃ xs, w.m p = some (.lst xs) ∧ Q (.tup xs) w
  | _ => False
theorem keysMap {κ : Type} {xs : List (Key × V)} {ds : List (Key × D)} {K : PySem.W.Frag} {g : Gh} (r : RepK K g xs ds) : RepL K g (xs.map fun kv => kV kv.1) (ds.map fun kv => kD kv.1) := by
  have e1 : (xs.map fun kv => kV kv.1) = (xs.map (·.1)).map kV := by simp
  have e2 : (ds.map fun kv => kD kv.1) = (ds.map (·.1)).map kD := by simp
  rw [e1, e2, r.keys]
  exact repKeys _
section
variable {X : Cx}
theorem cd_list (hc : X.calm = true) : CallD X (.type "list") listR := by
  refine ⟨_, CallR_or call_list_of (call_listD hc), fun c g w H vs ds Q Qv R r q k => ?_⟩
  unfold listR at q
  split at q
  · obtain ⟨v, rfl, a⟩ := r.one; cases a with
    | lst s r => exact .inl ⟨_, _, rfl, .inl (R.sqL s), newL R r q k⟩
  · obtain ⟨v, rfl, a⟩ := r.one; cases a with
    | tup s r => exact .inl ⟨_, _, rfl, .inr (R.sqT s), newL R r q k⟩
  · obtain ⟨v, rfl, a⟩ := r.one; cases a with
    | dic s r => exact .inr ⟨_, _, rfl, R.rdic s, newL R (keysMap (κ := Nat) r) q k⟩
  · obtain ⟨v, rfl, a⟩ := r.one; cases a
    rcases q with ⟨xs, e, q⟩ | ⟨xs, e, q⟩
    · obtain ⟨vs, e1, r⟩ := R.mlst e
      exact .inl ⟨_, _, rfl, .inl (SqL.of e1), newL R r q k⟩
    · obtain ⟨vs, e1, r⟩ := R.mdic e
      exact .inr ⟨_, _, rfl, .inl e1, newL R (keysMap (κ := Nat) r) q k⟩
  · exact q.elim
theorem cd_listM (hc : X.calm = true) : CallD X (.type "list") listMR := by
  refine ⟨_, CallR_or call_list_of (call_listD hc), fun c g w H vs ds Q Qv R r q k => ?_⟩
  unfold listMR at q
  split at q
  · obtain ⟨v, rfl, a⟩ := r.one; cases a with
    | lst s r => exact .inl ⟨_, _, rfl, .inl (R.sqL s), newM R r q k⟩
  · obtain ⟨v, rfl, a⟩ := r.one; cases a with
    | tup s r => exact .inl ⟨_, _, rfl, .inr (R.sqT s), newM R r q k⟩
  · obtain ⟨v, rfl, a⟩ := r.one; cases a with
    | dic s r => exact .inr ⟨_, _, rfl, R.rdic s, newM R (keysMap (κ := Nat) r) q k⟩
  · exact q.elim
theorem cd_tuple : CallD X (.type "tuple") tupleR := by
  refine ⟨_, call_tuple_of, fun c g w H vs ds Q Qv R r q k => ?_⟩
  unfold tupleR at q
  split at q
  · obtain ⟨v, rfl, a⟩ := r.one; cases a with
    | lst s r => exact ⟨_, _, rfl, .inl ⟨R.sqL s, newT R r q k⟩⟩
  · obtain ⟨v, rfl, a⟩ := r.one; cases a with
    | tup s r => exact ⟨_, _, rfl, .inr ⟨R.sqT s, k _ _ ⟨g, w, _, .rfl, R, .tup s r, q⟩⟩⟩
  · obtain ⟨v, rfl, a⟩ := r.one; cases a
    obtain ⟨xs, e, q⟩ := q
    obtain ⟨vs, e1, r⟩ := R.mlst e
    exact ⟨_, _, rfl, .inl ⟨SqL.of e1, newT R r q k⟩⟩
  · exact q.elim
end

/-! ### isinstance of a built-in type -/
def tyN : D → Option String
  | .non => some "NoneType"
  | .bl _ => some "bool"
  | .int _ => some "int"
  | .str _ => some "str"
  | .lst _ => some "list"
  | .tup _ => some "tuple"
  | .dic _ => some "dict"
  | _ => none
theorem Rep.tyx {K : PySem.W.Frag} {c : Ck} {g : Gh} {w : W} {H : Hp} (R : Rel K c g w H) {v : V} {d : D} {n : String} (r : Rep K g v d) (h : tyN d = some n) : TyX K H v (.type n) := by
  cases r with
  | non => cases h; exact .base .non
  | bl b => cases h; exact .base (.bl b)
  | int b => cases h; exact .base (.int b)
  | str b => cases h; exact .base (.str b)
  | lst s r =>
    cases h
    rcases R.sqL s with (e | ⟨o, e⟩) | ⟨o, its, n, e, hc, _⟩
    · exact .base (.lst e)
    · exact .base (.frz e)
    · exact .kList e hc
  | tup s r =>
    cases h
    rcases R.sqT s with (e | ⟨o, e⟩) | ⟨o, its, n, e, hc, _⟩
    · exact .base (.tup e)
    · exact .fTuple e
    · exact .kTuple e hc
  | dic s r =>
    cases h
    rcases R.rdic s with e | ⟨o, e⟩
    · exact .base (.dK e)
    · exact .fDict e
  | _ => cases h
def isiR : DRC := fun xs w Q => match xs with
  | [x, .ty n] => ∃ m b, tyN x = some m ∧ kitB m n = some b ∧ Q (.bl b) w
  | _ => False
theorem cd_isi {X : Cx} : CallD X (.builtin "isinstance") isiR := by
  refine ⟨_, call_isi, fun c g w H vs ds Q Qv R r q k => ?_⟩
  unfold isiR at q
  split at q
  · obtain ⟨v, u, rfl, a, b⟩ := r.two
    cases b
    obtain ⟨m, b, e1, e2, q⟩ := q
    exact ⟨_, _, _, _, b, rfl, .ty _, a.tyx R e1, kit_ty e2, k _ _ ⟨g, w, _, .rfl, R, .bl b, q⟩⟩
  · exact q.elim
/-- isinstance(x, (T1, T2)) with the tuple written there -/
def kitL (m : String) : List String → Option Bool
  | [] => some false
  | n :: ns => match kitB m n with
    | some true => some true
    | some false => kitL m ns
    | none => none
theorem kitL_any {K : PySem.W.Frag} {m : String} : ∀ {ns : List String} {b : Bool}, kitL m ns = some b → PySem.W.kitAny K (.type m) (ns.map .type) = some b
  | [], b, h => by cases h; rfl
  | n :: ns, b, h => by
    unfold kitL at h
    split at h
    · rename_i e
      cases h
      exact kitAny_cons (kit_ty e) (fun z => by cases z) fun _ => rfl
    · rename_i e
      exact kitAny_cons (kit_ty e) (fun _ => kitL_any h) fun z => by cases z
    · cases h
def tysOf : List D → Option (List String)
  | [] => some []
  | .ty n :: r => (tysOf r).map (n :: ·)
  | _ => none
theorem tysOf_cls {K : PySem.W.Frag} {g : Gh} : ∀ {vs : List V} {ds : List D} {ns : List String}, RepL K g vs ds → tysOf ds = some ns → Paired ClsV vs (ns.map Value.type)
  | _, _, _, .nil, e => by cases e; exact .nil
  | _, _, _, .cons a r, e => by
    cases a <;> simp only [tysOf, Option.map_eq_some_iff, reduceCtorEq] at e
    obtain ⟨ns, e1, rfl⟩ := e
    exact .cons (.ty _) (tysOf_cls r e1)
def dIsiT (t : DTE) (ts : DTA) : DTE := fun env w Q => t env w fun x w1 => ts env w1 fun cs w2 => cs.length ≤ sizeLine ∧ ∃ m ns b, tyN x = some m ∧ tysOf cs = some ns ∧ kitL m ns = some b ∧ Q (.bl b) w2
theorem de_isiT {X : Cx} {Wv : WX} {p pos tp : Pos} {e : Expr} {cs : List Expr} {kk : Nat} {t : DTE} {ts : DTA} (hm : X.mg "isinstance" = none) (he : DE X Wv e t) (hcs : DA X Wv cs ts) (hg : Gl X "isinstance" := by rfl)
    (hs1 : starEach [e, .Tuple cs kk tp] X.env = (false, eval e X.env) :: starEach [.Tuple cs kk tp] X.env := by rfl) (hs2 : starEach [.Tuple cs kk tp] X.env = (false, eval (.Tuple cs kk tp) X.env) :: starEach [] X.env := by rfl) (hpl : (backTo pos (starEach [.Tuple cs kk tp] X.env)).any (·.1) = false := by rfl) :
    DE X Wv (.Call (.Name "isinstance" p) [e, .Tuple cs kk tp] [] pos) (dIsiT t ts) := by
  refine ⟨PE_imp (pe_callB call_isiT hg hm (by decide +kernel) (pa_cons he.pe (pa_cons (pe_tup hcs.pa) pa_nil hs2) hs1) (by decide) (by decide) hs1 hpl) fun σ H Qv ⟨c, g, env, w, Q, B, q, k⟩ => ?_⟩
  refine bindE B q fun v H1 g1 w1 x l1 B1 r1 q1 => bindA B1 q1 fun vs H2 g2 w2 xs l2 B2 r2 q2 => ⟨by rw [r2.length]; exact q2.1, fun p hp => ?_⟩
  obtain ⟨_, m, ns, b, e1, e2, e3, q2⟩ := q2
  have l3 := Gh.add_le (o := .tup vs) (B2.R.noG hp)
  have R3 := B2.R.alloc (o := .tup vs) hp
  exact ⟨v, p, vs, _, _, b, rfl, upd_same, tysOf_cls r2 e2, ((r1.le l2).le l3).tyx R3 e1, kitL_any e3, k _ _ ⟨_, w2, .bl b, (l1.trans l2).trans l3, R3, .bl b, q2⟩⟩

/-! ### methods of texts -/
def MtD (X : Cx) (id : String) (r : D → DRC) : Prop := ∃ r0, MtR X id r0 ∧ ∀ c g w H v x vs ds Q Qv, Rel X.K c g w H → Rep X.K g v x → RepL X.K g vs ds → r x ds w Q → (∀ v H', PQ X.K c g Q v H' → Qv v H') → r0 v vs H Qv
def onStr (d : D) (P : Prop) : Prop := match d with
  | .str _ => P
  | _ => False
def dM0 (r : D → DRC) (to : DTE) : DTE := fun env w Q => to env w fun x w1 => onStr x (r x [] w1 Q)
def dM1 (r : D → DRC) (to te : DTE) : DTE := fun env w Q => to env w fun x w1 => onStr x (te env w1 fun y w2 => r x [y] w2 Q)
section
variable {X : Cx} {Wv : WX} {o e : Expr} {to te : DTE} {id : String} {name : Str} {apos pos : Pos} {r : D → DRC}
theorem de_m0 (slot : Slot "str" name id) (ty : typeOf (.builtin id) = pure (.type "method_descriptor")) (rule : MtD X id r) (ho : DE X Wv o to)
    (hbase : attributeBase o name X.env (eval o X.env) = eval o X.env := by rfl) (hline : (apos.endLine == pos.line) = true := by rfl) : DE X Wv (.Call (.Attribute o name apos) [] [] pos) (dM0 r to) := by
  obtain ⟨r0, h0, imp⟩ := rule
  refine ⟨PE_imp (pe_m0 slot ty h0 ho.pe hbase hline) fun σ H Qv ⟨c, g, env, w, Q, B, q, k⟩ => bindE B q fun v H1 g1 w1 x l1 B1 r1 q1 => ?_⟩
  cases r1 with
  | str z => exact ⟨⟨_, rfl⟩, imp c g1 w1 H1 _ _ [] [] Q Qv B1.R (.str z) .nil q1 fun v H' z => k v H' (z.up l1)⟩
  | _ => exact False.elim q1
theorem de_m1 (slot : Slot "str" name id) (ty : typeOf (.builtin id) = pure (.type "method_descriptor")) (rule : MtD X id r) (ho : DE X Wv o to) (he : DE X Wv e te)
    (hs : starEach [e] X.env = [(false, eval e X.env)] := by rfl) (hbase : attributeBase o name X.env (eval o X.env) = eval o X.env := by rfl) (hline : (apos.endLine == pos.line) = true := by rfl) :
    DE X Wv (.Call (.Attribute o name apos) [e] [] pos) (dM1 r to te) := by
  obtain ⟨r0, h0, imp⟩ := rule
  refine ⟨PE_imp (pe_m1 slot ty h0 ho.pe he.pe hs hbase hline) fun σ H Qv ⟨c, g, env, w, Q, B, q, k⟩ => bindE B q fun v H1 g1 w1 x l1 B1 r1 q1 => ?_⟩
  cases r1 with
  | str z => exact ⟨⟨_, rfl⟩, bindE B1 q1 fun u H2 g2 w2 y l2 B2 r2 q2 => imp c g2 w2 H2 _ _ [u] [y] Q Qv B2.R (.str z) (.cons r2 .nil) q2 fun v H' z => k v H' ((z.up l2).up l1)⟩
  | _ => exact False.elim q1
def strsOf : List D → Option (List Str)
  | [] => some []
  | .str b :: r => (strsOf r).map (b :: ·)
  | _ => none
theorem RepL.strs {K : PySem.W.Frag} {g : Gh} : ∀ {vs : List V} {ds : List D} {bs : List Str}, RepL K g vs ds → strsOf ds = some bs → vs = bs.map V.str
  | _, _, _, .nil, e => by cases e; rfl
  | _, _, _, .cons a r, e => by
    cases a <;> simp only [strsOf, Option.map_eq_some_iff, reduceCtorEq] at e
    obtain ⟨bs, e1, rfl⟩ := e
    rw [RepL.strs r e1]; rfl
theorem strsOf_map (bs : List Str) : strsOf (bs.map D.str) = some bs := by
  induction bs with
  | nil => rfl
  | cons b r ih => simp [strsOf, ih]
def joinR : D → DRC := fun x ds w Q => match x, ds with
  | .str a, [.lst xs] => ∃ ys, strsOf xs = some ys ∧ (ys.map (·.length)).sum + ys.length * a.length ≤ 16777216 ∧ Q (.str (Txt.join a ys)) w
  | .str a, [.tup xs] => ∃ ys, strsOf xs = some ys ∧ (ys.map (·.length)).sum + ys.length * a.length ≤ 16777216 ∧ Q (.str (Txt.join a ys)) w
  | .str a, [.ref p] => ∃ xs ys, w.m p = some (.lst xs) ∧ strsOf xs = some ys ∧ (ys.map (·.length)).sum + ys.length * a.length ≤ 16777216 ∧ Q (.str (Txt.join a ys)) w
  | _, _ => False
theorem md_join : MtD X "str.join" joinR := by
  refine ⟨_, mt_join, fun c g w H v x vs ds Q Qv R r1 r2 q k => ?_⟩
  unfold joinR at q
  split at q
  · obtain ⟨u, rfl, a⟩ := r2.one; cases r1
    obtain ⟨ys, e, h, q⟩ := q
    cases a with
    | lst s r => exact ⟨_, _, ys, rfl, rfl, .inl (by rw [← r.strs e]; exact R.sqL s), h, k _ _ ⟨g, w, _, .rfl, R, .str _, q⟩⟩
  · obtain ⟨u, rfl, a⟩ := r2.one; cases r1
    obtain ⟨ys, e, h, q⟩ := q
    cases a with
    | tup s r => exact ⟨_, _, ys, rfl, rfl, .inr (by rw [← r.strs e]; exact R.sqT s), h, k _ _ ⟨g, w, _, .rfl, R, .str _, q⟩⟩
  · obtain ⟨u, rfl, a⟩ := r2.one; cases r1; cases a
    obtain ⟨xs, ys, em, e, h, q⟩ := q
    obtain ⟨vs, e1, r⟩ := R.mlst em
    exact ⟨_, _, ys, rfl, rfl, .inl (by rw [← r.strs e]; exact SqL.of e1), h, k _ _ ⟨g, w, _, .rfl, R, .str _, q⟩⟩
  · exact q.elim
def upperR : D → DRC := fun x ds w Q => match x, ds with
  | .str a, [] => a.length ≤ 5592405 ∧ Q (.str (Txt.upper a)) w
  | _, _ => False
theorem md_upper : MtD X "str.upper" upperR := by
  refine ⟨_, mt_upper, fun c g w H v x vs ds Q Qv R r1 r2 q k => ?_⟩
  unfold upperR at q
  split at q
  · cases r1; cases r2
    exact ⟨_, rfl, rfl, q.1, k _ _ ⟨g, w, _, .rfl, R, .str _, q.2⟩⟩
  · exact q.elim
theorem de_join (ho : DE X Wv o to) (he : DE X Wv e te) (hs : starEach [e] X.env = [(false, eval e X.env)] := by rfl) (hbase : attributeBase o "join" X.env (eval o X.env) = eval o X.env := by rfl) (hline : (apos.endLine == pos.line) = true := by rfl) :
    DE X Wv (.Call (.Attribute o "join" apos) [e] [] pos) (dM1 joinR to te) := de_m1 PySem.F.slot_str_join PySem.F.type_str_join md_join ho he hs hbase hline
theorem de_upper (ho : DE X Wv o to) (hbase : attributeBase o "upper" X.env (eval o X.env) = eval o X.env := by rfl) (hline : (apos.endLine == pos.line) = true := by rfl) :
    DE X Wv (.Call (.Attribute o "upper" apos) [] [] pos) (dM0 upperR to) := de_m0 PySem.F.slot_str_upper PySem.F.type_str_upper md_upper ho hbase hline
end
end DL

/-! DLh: repr; lists and dicts that change. -/
namespace DL
open PySem PySem.Spec PyProof.Rows L2

/-! ### repr -/
/-- (nothing is asked any more) -/
def noL (_ : PyData) : Bool := true
/-- no dict lies where sys.modules does -/
def Away (h : Heap) : Prop := ∀ o, h.get? sysModules = some o → o.cls ≠ .type "dict"
section
variable {P : Program} {wd : World} {h : Heap}
theorem Away.dict (L : Away h) {b : Addr} {o : Obj} (e : h.get? b = some o) (c : o.cls = .type "dict") : (b == sysModules) = false := by
  refine beq_eq_false_iff_ne.mpr fun z => ?_
  subst z
  exact L o e c
mutual
theorem rk_of (L : Away h) : ∀ {v : Value} {d : PyData} {ad : List Addr}, Reads h v d ad → d.showable = true → d.shown.length ≤ sizeLine → ∃ cs, ReadAtMost h d.depth cs ∧ ReprK P wd cs h d.depth v d.shown
  | _, _, _, .none, _, _ => ⟨[], (fun _ q => nomatch q), by simp only [PyData.shown]; exact .of_is ReprIs.none _ _ _⟩
  | _, _, _, .bool k, _, _ => ⟨[], (fun _ q => nomatch q), by simp only [PyData.shown]; exact .of_is (ReprIs.bool k) _ _ _⟩
  | _, _, _, .int k t, sh, _ => ⟨[], (fun _ q => nomatch q), by simp only [PyData.shown]; exact .of_is (ReprIs.int t (by simpa [PyData.showable] using sh)) _ _ _⟩
  | _, _, _, .str z t, _, sz => ⟨[], (fun _ q => nomatch q), by simp only [PyData.shown]; exact .of_is (ReprIs.str z t (by simpa only [PyData.shown] using sz)) _ _ _⟩
  | _, _, _, .list (a := b) (vs := us) (xs := ps) e1 e2 e3 e4, sh, sz => by
    have sz1 : (listText (PyData.shownAll ps)).length ≤ sizeLine := by simpa only [PyData.shown] using sz
    obtain ⟨cs, below, k⟩ := rkA_of L e4 (by simpa [PyData.showable] using sh) fun t ht => Nat.le_trans (listText_mem_le ht) sz1
    have rd : Reads h (.ref b) (.list ps) _ := .list e1 e2 e3 e4
    have out : b ∉ cs := not_mem_of_deeper rd (by simp only [PyData.depth]; omega) below
    refine ⟨b :: cs, ReadAtMost.cons rd (by simp only [PyData.depth]; omega) below, ?_⟩
    simp only [PyData.depth, PyData.shown]
    obtain ⟨ul⟩ := us
    cases ul with
    | nil =>
      cases (show ReadsAll h [] ps _ from e4)
      simp only [PyData.shownAll, listText_nil]
      exact ReprK.listEmpty e1 e2 e3
    | cons x ul => exact ReprK.list e1 e2 e3 out (by simpa using k.length_eq) fun i y q => k.item i y (by simpa using q)
  | _, _, _, .tuple (a := b) (xs := ps) e1 e2 e3 e4, sh, sz => by
    have sz1 : (tupleText (PyData.shownAll ps)).length ≤ sizeLine := by simpa only [PyData.shown] using sz
    obtain ⟨cs, below, k⟩ := rkA_of L e4 (by simpa [PyData.showable] using sh) fun t ht => Nat.le_trans (tupleText_mem_le ht) sz1
    have rd : Reads h (.ref b) (.tuple ps) _ := .tuple e1 e2 e3 e4
    have out : b ∉ cs := not_mem_of_deeper rd (by simp only [PyData.depth]; omega) below
    refine ⟨b :: cs, ReadAtMost.cons rd (by simp only [PyData.depth]; omega) below, ?_⟩
    simp only [PyData.depth, PyData.shown]
    exact ReprK.tuple e1 e2 e3 out k
  | _, _, _, .dict (a := b) (es := en) (kvs := ps) e1 e2 e3 e4 e5, sh, sz => by
    have sz1 : (dictText (PyData.shownKv ps)).length ≤ sizeLine := by simpa only [PyData.shown] using sz
    obtain ⟨sk, sv⟩ := PyData.showableKv_split ps (by simpa [PyData.showable] using sh)
    obtain ⟨c1, m1, k1⟩ := rkA_of L e4 sk fun t ht => let ⟨p, hp, hl⟩ := PyData.shownKv_key_le ps t ht; Nat.le_trans hl (Nat.le_trans (dictText_mem_le hp) sz1)
    obtain ⟨c2, m2, k2⟩ := rkA_of L e5 sv fun t ht => let ⟨p, hp, hl⟩ := PyData.shownKv_val_le ps t ht; Nat.le_trans hl (Nat.le_trans (dictText_mem_le hp) sz1)
    have rd : Reads h (.ref b) (.dict ps) _ := .dict e1 e2 e3 e4 e5
    have m3 : ReadAtMost h (PyData.depthKv ps) (c1 ++ c2) := (m1.mono (PyData.depthAll_keys_le ps)).append (m2.mono (PyData.depthAll_vals_le ps))
    have out : b ∉ c1 ++ c2 := not_mem_of_deeper rd (by simp only [PyData.depth]; omega) m3
    refine ⟨b :: (c1 ++ c2), ReadAtMost.cons rd (by simp only [PyData.depth]; omega) m3, ?_⟩
    simp only [PyData.depth, PyData.shown, PyData.shownKv_eq]
    refine ReprK.dict e1 e2 e3 (L.dict e1 e2) out (ReprEntriesK.of_two en.toList _ _ ?_ ?_)
    · exact k1.more_le (fun _ q => List.mem_append_left _ q) (PyData.depthAll_keys_le ps)
    · exact k2.more_le (fun _ q => List.mem_append_right _ q) (PyData.depthAll_vals_le ps)
theorem rkA_of (L : Away h) : ∀ {us : List Value} {ps : List PyData} {ad : List Addr}, ReadsAll h us ps ad → PyData.showableAll ps = true → (∀ t ∈ PyData.shownAll ps, t.length ≤ sizeLine) → ∃ cs, ReadAtMost h (PyData.depthAll ps) cs ∧ ReprAllK P wd cs h (PyData.depthAll ps) us (PyData.shownAll ps)
  | _, _, _, .nil, _, _ => ⟨[], (fun _ q => nomatch q), by simp only [PyData.shownAll]; exact .nil⟩
  | _, _, _, .cons (d := p) (ds := ps) r1 r2, sh, sz => by
    obtain ⟨sh1, sh2⟩ : p.showable = true ∧ PyData.showableAll ps = true := by simpa [PyData.showableAll] using sh
    obtain ⟨c1, m1, k1⟩ := rk_of L r1 sh1 (sz _ (by simp only [PyData.shownAll]; exact List.mem_cons_self ..))
    obtain ⟨c2, m2, k2⟩ := rkA_of L r2 sh2 fun t ht => sz t (by simp only [PyData.shownAll]; exact List.mem_cons_of_mem _ ht)
    refine ⟨c1 ++ c2, ?_, ?_⟩
    · simp only [PyData.depthAll]
      exact (m1.mono (Nat.le_max_left _ _)).append (m2.mono (Nat.le_max_right _ _))
    · simp only [PyData.depthAll, PyData.shownAll]
      exact .cons ((k1.more fun _ q => List.mem_append_left _ q).level_le (Nat.le_max_left _ _)) (k2.more_le (fun _ q => List.mem_append_right _ q) (Nat.le_max_right _ _))
end
/-- repr of a container, where no dict lies at sys.modules -/
theorem sb_of (L : Away h) {b : Addr} {d : PyData} {ad : List Addr} (r : Reads h (.ref b) d ad) (sh : d.showable = true) (sz : d.shown.length ≤ sizeLine) : ∃ T idr, ShowsBy P wd h b d T idr := by
  cases r with
  | @list _ o us n ps _ e1 e2 e3 e4 =>
    have sz1 : (listText (PyData.shownAll ps)).length ≤ sizeLine := by simpa only [PyData.shown] using sz
    obtain ⟨cs, below, k⟩ := rkA_of (P := P) (wd := wd) L e4 (by simpa [PyData.showable] using sh) fun t ht => Nat.le_trans (listText_mem_le ht) sz1
    have out : b ∉ cs := not_mem_of_deeper (.list e1 e2 e3 e4) (by simp only [PyData.depth]; omega) below
    refine ⟨"list", "list.__repr__", F.slot_list_repr.toG, F.slot_list_str, F.slot_list_format, fun s k0 => ⟨o, k0 _ _ e1, e2⟩, fun A E s Q hg hu k0 hQ => ?_⟩
    simp only [PyData.depth] at hu
    simp only [PyData.shown] at hQ
    obtain ⟨ul⟩ := us
    cases ul with
    | nil =>
      cases (show ReadsAll h [] ps _ from e4)
      simp only [PyData.shownAll, listText_nil] at hQ
      exact call_list_repr_empty ⟨o, k0 _ _ e1, e2⟩ (k0 _ _ e1) e3 (hQ s.heap _ _ fun _ _ e => e)
    | cons x ul => exact call_list_reprK e1 e2 e3 out (by simpa using k.length_eq) (fun i y q => k.item i y (by simpa using q)) hg (fun c _ => Clear.nil c) hu k0 hQ sz1
  | @tuple _ o us n ps _ e1 e2 e3 e4 =>
    have sz1 : (tupleText (PyData.shownAll ps)).length ≤ sizeLine := by simpa only [PyData.shown] using sz
    obtain ⟨cs, below, k⟩ := rkA_of (P := P) (wd := wd) L e4 (by simpa [PyData.showable] using sh) fun t ht => Nat.le_trans (tupleText_mem_le ht) sz1
    have out : b ∉ cs := not_mem_of_deeper (.tuple e1 e2 e3 e4) (by simp only [PyData.depth]; omega) below
    refine ⟨"tuple", "tuple.__repr__", F.slot_tuple_repr, F.slot_tuple_str, F.slot_tuple_format, fun s k0 => ⟨o, k0 _ _ e1, e2⟩, fun A E s Q hg hu k0 hQ => ?_⟩
    simp only [PyData.depth] at hu
    simp only [PyData.shown] at hQ
    exact call_tuple_reprK e1 e2 e3 out k hg (fun c _ => Clear.nil c) hu k0 hQ sz1
  | @dict _ o en n ps _ _ e1 e2 e3 e4 e5 =>
    have sz1 : (dictText (PyData.shownKv ps)).length ≤ sizeLine := by simpa only [PyData.shown] using sz
    obtain ⟨sk, sv⟩ := PyData.showableKv_split ps (by simpa [PyData.showable] using sh)
    obtain ⟨c1, m1, k1⟩ := rkA_of (P := P) (wd := wd) L e4 sk fun t ht => let ⟨p, hp, hl⟩ := PyData.shownKv_key_le ps t ht; Nat.le_trans hl (Nat.le_trans (dictText_mem_le hp) sz1)
    obtain ⟨c2, m2, k2⟩ := rkA_of (P := P) (wd := wd) L e5 sv fun t ht => let ⟨p, hp, hl⟩ := PyData.shownKv_val_le ps t ht; Nat.le_trans hl (Nat.le_trans (dictText_mem_le hp) sz1)
    have m3 : ReadAtMost h (PyData.depthKv ps) (c1 ++ c2) := (m1.mono (PyData.depthAll_keys_le ps)).append (m2.mono (PyData.depthAll_vals_le ps))
    have out : b ∉ c1 ++ c2 := not_mem_of_deeper (.dict e1 e2 e3 e4 e5) (by simp only [PyData.depth]; omega) m3
    refine ⟨"dict", "dict.__repr__", F.slot_dict_repr, F.slot_dict_str, F.slot_dict_format, fun s k0 => ⟨o, k0 _ _ e1, e2⟩, fun A E s Q hg hu k0 hQ => ?_⟩
    simp only [PyData.depth] at hu
    simp only [PyData.shown, PyData.shownKv_eq] at hQ
    refine call_dict_reprK e1 e2 e3 (L.dict e1 e2) out (ReprEntriesK.of_two en.toList _ _ ?_ ?_) hg (fun c _ => Clear.nil c) hu k0 hQ (by rw [← PyData.shownKv_eq]; exact sz1)
    · exact k1.more_le (fun _ q => List.mem_append_left _ q) (PyData.depthAll_keys_le ps)
    · exact k2.more_le (fun _ q => List.mem_append_right _ q) (PyData.depthAll_vals_le ps)
end
/-- a dict lies at sys.modules -/
def SysD (h : Heap) : Prop := ∃ o, h.get? sysModules = some o ∧ o.cls = .type "dict"
theorem SysD.other {h : Heap} (S : SysD h) {b : Addr} {o : Obj} (e : h.get? b = some o) {T : String} (c : o.cls = .type T) (n : T ≠ "dict" := by decide) : (b == sysModules) = false := by
  refine beq_eq_false_iff_ne.mpr fun z => ?_
  subst z
  obtain ⟨o', e', c'⟩ := S
  rw [e] at e'
  cases e'
  rw [c] at c'
  exact n (by injection c')
section
variable {X : Cx} {pins : List (Addr × Obj)} {σ : St} {H : Hp} {s : Shared}
theorem pairs_keys {P : Program} {w : World} {h : Heap} {g : Gh} {K : PySem.W.Frag} : ∀ {es : List DictEntry} {vs : List (Key × Value)} {xs : List (Key × V)} {ds : List (Key × D)} {ps : List (PyData × PyData)},
    Pairs (mixKind P w) es vs → KV xs vs → RepK K g xs ds → toPyK ds = some ps → ReadsAll h (es.map (·.key)) (ps.map (·.1)) [] := by
  intro es vs xs ds ps hp
  induction hp generalizing xs ds ps with
  | nil =>
    intro kv rk e
    cases kv; cases rk
    simp only [toPyK] at e; cases e
    exact .nil
  | @cons e0 kv0 es vs hk hv r ih =>
    intro kv rk e
    cases kv with
    | cons kv t => cases rk with
      | cons a rk =>
        simp only [toPyK, Option.bind_eq_some_iff, Option.map_eq_some_iff] at e
        obtain ⟨d, e1, ds, e2, rfl⟩ := e
        have ih := ih t rk e2
        have hk : keyIs kv0.1 e0.key = true := hk
        rw [← kv.1] at hk
        rcases keyIs_shape hk with ⟨i, tk, e3, e4⟩ | ⟨i, tk, e3, e4⟩
        · simp only at e3
          rw [List.map_cons, List.map_cons, e4]
          subst e3
          exact ReadsAll.cons (as := []) (bs := []) (.int _ _) ih
        · simp only at e3
          rw [List.map_cons, List.map_cons, e4]
          subst e3
          exact ReadsAll.cons (as := []) (bs := []) (.str _ _) ih
mutual
theorem Rep.reads (I : Inv X pins σ H s) {c : Ck} {g : Gh} {w : W} (R : Rel X.K c g w H) : ∀ {v : V} {d : D} {p : PyData} {u : Value}, Rep X.K g v d → toPy d = some p → RelV v u → ∃ as, Reads s.heap u p as ∧ (SysD s.heap → ∀ a ∈ as, (a == sysModules) = false)
  | _, _, _, _, .non, e, r => by simp only [toPy] at e; cases e; cases r; exact ⟨[], .none, fun _ _ h => by cases h⟩
  | _, _, _, _, .bl b, e, r => by simp only [toPy] at e; cases e; cases r; exact ⟨[], .bool b, fun _ _ h => by cases h⟩
  | _, _, _, _, .int b, e, r => by simp only [toPy] at e; cases e; obtain ⟨t, rfl⟩ := r; exact ⟨[], .int b t, fun _ _ h => by cases h⟩
  | _, _, _, _, .str b, e, r => by simp only [toPy] at e; cases e; obtain ⟨t, rfl⟩ := r; exact ⟨[], .str b t, fun _ _ h => by cases h⟩
  | _, _, _, _, .lst sl rl, e, r => by
    simp only [toPy, Option.map_eq_some_iff] at e
    obtain ⟨ps, e1, rfl⟩ := e
    cases r
    obtain ⟨its, rv, ⟨o, n, eo, hc, hd, hs⟩, _⟩ := I.list (R.sqL sl)
    obtain ⟨as, h, h2⟩ := RepL.reads I R rl e1 rv
    refine ⟨_, .list eo hc hs (by simpa using h), fun z a ha => ?_⟩
    rcases List.mem_cons.mp ha with e | ha
    · rw [e]; exact z.other eo hc
    · exact h2 z a (by simpa using ha)
  | _, _, _, _, .tup sl rl, e, r => by
    simp only [toPy, Option.map_eq_some_iff] at e
    obtain ⟨ps, e1, rfl⟩ := e
    cases r
    obtain ⟨its, rv, ⟨o, eo, hc, n, hs⟩, _⟩ := I.tuple (R.sqT sl)
    obtain ⟨as, h, h2⟩ := RepL.reads I R rl e1 rv
    exact ⟨_, .tuple eo hc hs (by simpa using h), h2⟩
  | _, _, _, _, .dic sl rl, e, r => by
    simp only [toPy, Option.map_eq_some_iff] at e
    obtain ⟨ps, e1, rfl⟩ := e
    cases r
    obtain ⟨_, hsm, vs, kv, o, es, ep, eo, ex, ed, _, hp, _⟩ := dk_rd I.hok (R.rdic sl)
    obtain ⟨as, h, h2⟩ := RepK.reads I R rl e1 kv hp
    refine ⟨_, .dict eo ex.1 ed (pairs_keys hp kv rl e1) h, fun z a ha => ?_⟩
    rcases List.mem_cons.mp ha with e | ha
    · rw [e]; exact hsm
    · exact h2 z a (by simpa using ha)
  | _, _, _, _, .ty n, e, _ => by simp [toPy] at e
  | _, _, _, _, .obj _ _ _, e, _ => by simp [toPy] at e
  | _, _, _, _, .ref _, e, _ => by simp [toPy] at e
  | _, _, _, _, .pen _, e, _ => by simp [toPy] at e
  | _, _, _, _, .exc _ _ _ _, e, _ => by simp [toPy] at e
theorem RepL.reads (I : Inv X pins σ H s) {c : Ck} {g : Gh} {w : W} (R : Rel X.K c g w H) : ∀ {v : List V} {d : List D} {p : List PyData} {u : List Value}, RepL X.K g v d → toPyL d = some p → Vals v u → ∃ as, ReadsAll s.heap u p as ∧ (SysD s.heap → ∀ a ∈ as, (a == sysModules) = false)
  | _, _, _, _, .nil, e, r => by simp only [toPyL] at e; cases e; cases r; exact ⟨[], .nil, fun _ _ h => by cases h⟩
  | _, _, _, _, .cons a rl, e, r => by
    simp only [toPyL, Option.bind_eq_some_iff, Option.map_eq_some_iff] at e
    obtain ⟨d, e1, ds, e2, rfl⟩ := e
    cases r with
    | cons r1 r2 =>
      obtain ⟨as, h1, h2⟩ := Rep.reads I R a e1 r1
      obtain ⟨bs, h3, h4⟩ := RepL.reads I R rl e2 r2
      refine ⟨_, .cons h1 h3, fun z a ha => ?_⟩
      exact (List.mem_append.mp ha).elim (h2 z a) (h4 z a)
theorem RepK.reads (I : Inv X pins σ H s) {c : Ck} {g : Gh} {w : W} (R : Rel X.K c g w H) : ∀ {v : List (Key × V)} {d : List (Key × D)} {p : List (PyData × PyData)} {vs : List (Key × Value)} {es : List DictEntry}, RepK X.K g v d → toPyK d = some p → KV v vs → Pairs (mixKind X.prog X.w) es vs →
    ∃ as, ReadsAll s.heap (es.map (·.val)) (p.map (·.2)) as ∧ (SysD s.heap → ∀ a ∈ as, (a == sysModules) = false)
  | _, _, _, _, _, .nil, e, r, hp => by simp only [toPyK] at e; cases e; cases r; cases hp; exact ⟨[], .nil, fun _ _ h => by cases h⟩
  | _, _, _, _, _, .cons a rl, e, r, hp => by
    simp only [toPyK, Option.bind_eq_some_iff, Option.map_eq_some_iff] at e
    obtain ⟨d, e1, ds, e2, rfl⟩ := e
    cases r with
    | cons r1 r2 => cases hp with
      | cons k1 k2 hp =>
        obtain ⟨as, h1, h2⟩ := Rep.reads I R a e1 r1.2
        obtain ⟨bs, h3, h4⟩ := RepK.reads I R rl e2 r2 hp
        refine ⟨_, by rw [List.map_cons, List.map_cons, k2]; exact .cons h1 h3, fun z a ha => ?_⟩
        exact (List.mem_append.mp ha).elim (h2 z a) (h4 z a)
end
end
/-- what repr asks of data -/
structure ShowOk (d : PyData) : Prop where
  sh : d.showable = true
  dp : d.depth ≤ 60
  sz : d.shown.length ≤ sizeLine
  nl : d.hasDict = true → noL d = true
def reprR : DRC := fun xs w Q => match xs with
  | [x] => ∃ d, toPy x = some d ∧ ShowOk d ∧ Q (.str d.shown) w
  | _ => False
def rRepr (K : PySem.W.Frag) : List V → Hp → VK → Prop := fun xs H Q => ∃ v c g w x d, xs = [v] ∧ Rel K c g w H ∧ Rep K g v x ∧ toPy x = some d ∧ ShowOk d ∧ Q (.str d.shown) H
theorem call_reprR {X : Cx} (hg : X.A.guards = some []) (hu : X.A.units + 64 < cLine) : CallR X (.builtin "repr") (rRepr X.K) := by
  intro pins s σ H xs us Q I r h
  obtain ⟨v, c, g, w, x, d, rfl, R, rx, e, ok, q⟩ := h
  obtain ⟨u, rfl, ru⟩ := vals1 r
  obtain ⟨as, hr, hn⟩ := rx.reads I R e ru
  have big : ∀ a : Addr, u = .ref a → wpAny (model X.prog X.w) X.A (call (.builtin "repr") [u]) (EP X pins σ Q) X.xe s := fun a ea => by
    subst ea
    by_cases hS : SysD s.heap
    · refine repr_of_reads' hr ok.sh (fun hd hm => ?_) hg (by have := ok.dp; omega) (fun _ _ z => z) (fun h' u' tk hk => ⟨.str _, H, I.kept hk, ⟨_, rfl⟩, q⟩) ok.sz
      have z := hn hS _ hm
      simp at z
    · obtain ⟨T, idr, S⟩ := sb_of (P := X.prog) (wd := X.w) (fun o e c => hS ⟨o, e, c⟩) hr ok.sh ok.sz
      refine call_repr_slot (by omega) (S.typeIs s fun _ _ z => z) S.slotRepr (S.call X.A.in1 _ s _ hg (by have := ok.dp; show X.A.units + 1 + d.depth < cLine; omega) (fun _ _ z => z) fun h' u tk hk => ⟨_, _, rfl, ⟨.str _, H, I.kept hk, ⟨_, rfl⟩, q⟩⟩)
  have sz := ok.sz
  have sh := ok.sh
  cases rx with
  | non => simp only [toPy] at e; cases e; cases ru; exact PySem.P.repr_of_none ⟨.str _, H, I.tok _, ⟨_, rfl⟩, by simpa [PyData.shown] using q⟩
  | bl b => simp only [toPy] at e; cases e; cases ru; exact PySem.P.repr_of_bool ⟨.str _, H, I.tok _, ⟨_, rfl⟩, by simpa [PyData.shown] using q⟩
  | int b => simp only [toPy] at e; cases e; obtain ⟨t, rfl⟩ := ru; exact PySem.P.repr_of_int (by simpa [PyData.showable] using sh) ⟨.str _, H, I.tok _, ⟨_, rfl⟩, by simpa [PyData.shown] using q⟩
  | str b => simp only [toPy] at e; cases e; obtain ⟨t, rfl⟩ := ru; exact PySem.P.repr_of_str ⟨.str _, H, I.tok _, ⟨_, rfl⟩, by simpa [PyData.shown] using q⟩ (by simpa [PyData.shown] using sz)
  | lst s r => exact big _ ru
  | tup s r => exact big _ ru
  | dic s r => exact big _ ru
  | _ => simp [toPy] at e
theorem cd_repr {X : Cx} (hg : X.A.guards = some []) (hu : X.A.units + 64 < cLine) : CallD X (.builtin "repr") reprR := by
  refine ⟨_, call_reprR hg hu, fun c g w H vs ds Q Qv R r q k => ?_⟩
  unfold reprR at q
  split at q
  · obtain ⟨v, rfl, a⟩ := r.one
    obtain ⟨d, e, ok, q⟩ := q
    exact ⟨v, c, g, w, _, d, rfl, R, a, e, ok, k _ _ ⟨g, w, _, .rfl, R, .str _, q⟩⟩
  · exact q.elim
end DL

/-! DLi: lists and dicts that change. -/
namespace DL
open PySem PySem.Spec PyProof.Rows L2

/-! ### a dict's pairs -/
def putD {κ : Type} [DecidableEq κ] (kvs : List (κ × D)) (k : κ) (v : D) : List (κ × D) :=
  if (kvs.any fun kv => decide (kv.1 = k)) = true then kvs.map (fun kv => if kv.1 = k then (kv.1, v) else kv) else kvs ++ [(k, v)]
def dropD {κ : Type} [DecidableEq κ] (kvs : List (κ × D)) (k : κ) : List (κ × D) := kvs.filter fun kv => decide (kv.1 ≠ k)
def mergeD (kvs more : List (Key × D)) : List (Key × D) := more.foldl (fun acc kv => putD acc kv.1 kv.2) kvs
section
variable {K : PySem.W.Frag} {g : Gh}
theorem RepK.any {k : Key} : ∀ {xs : List (Key × V)} {ds : List (Key × D)}, RepK K g xs ds → (xs.any fun kv => decide (kv.1 = k)) = ds.any fun kv => decide (kv.1 = k)
  | _, _, .nil => rfl
  | _, _, .cons _ r => by rw [List.any_cons, List.any_cons, RepK.any r]
theorem RepK.append : ∀ {v v' : List (Key × V)} {d d' : List (Key × D)}, RepK K g v d → RepK K g v' d' → RepK K g (v ++ v') (d ++ d')
  | _, _, _, _, .nil, s => s
  | _, _, _, _, .cons a r, s => .cons a (RepK.append r s)
theorem RepK.repl {k : Key} {v : V} {d : D} (a : Rep K g v d) : ∀ {xs : List (Key × V)} {ds : List (Key × D)}, RepK K g xs ds → RepK K g (xs.map fun kv => if kv.1 = k then (kv.1, v) else kv) (ds.map fun kv => if kv.1 = k then (kv.1, d) else kv)
  | _, _, .nil => .nil
  | _, _, @RepK.cons _ _ k' v' vs d' ds b r => by
    rw [List.map_cons, List.map_cons]
    by_cases e : k' = k
    · rw [if_pos e, if_pos e]; exact .cons a (RepK.repl a r)
    · rw [if_neg e, if_neg e]; exact .cons b (RepK.repl a r)
theorem RepK.put {k : Key} {v : V} {d : D} (a : Rep K g v d) {xs : List (Key × V)} {ds : List (Key × D)} (r : RepK K g xs ds) : RepK K g (putK xs k v) (putD ds k d) := by
  unfold putK putD
  rw [r.any]
  split
  · exact r.repl a
  · exact r.append (.cons a .nil)
theorem RepK.drop {k : Key} : ∀ {xs : List (Key × V)} {ds : List (Key × D)}, RepK K g xs ds → RepK K g (dropK xs k) (dropD ds k)
  | _, _, .nil => .nil
  | _, _, @RepK.cons _ _ k' v' vs d' ds b r => by
    unfold dropK dropD
    by_cases e : k' = k
    · rw [List.filter_cons_of_neg (by simpa using e), List.filter_cons_of_neg (by simpa using e)]; exact RepK.drop r
    · rw [List.filter_cons_of_pos (by simpa using e), List.filter_cons_of_pos (by simpa using e)]; exact .cons b (RepK.drop r)
theorem RepK.merge : ∀ {more : List (Key × V)} {dm : List (Key × D)} {xs : List (Key × V)} {ds : List (Key × D)}, RepK K g more dm → RepK K g xs ds → RepK K g (mergeK xs more) (mergeD ds dm)
  | _, _, _, _, .nil, q => q
  | _, _, _, _, .cons a r, q => by
    unfold mergeK mergeD
    rw [List.foldl_cons, List.foldl_cons]
    exact RepK.merge r (q.put a)
end
theorem valD_putD {κ : Type} [DecidableEq κ] (kvs : List (κ × D)) (k j : κ) (d : D) : valD (putD kvs k d) j = if k = j then some d else valD kvs j := by
  unfold putD
  split
  · rename_i h
    induction kvs with
    | nil => simp at h
    | cons p r ih =>
      by_cases e : p.1 = k
      · rw [List.map_cons, if_pos e]
        by_cases ej : k = j
        · rw [if_pos ej]; unfold valD; rw [List.find?_cons_of_pos (by simp [e, ej])]; rfl
        · rw [if_neg ej]
          unfold valD
          rw [List.find?_cons_of_neg (by simp [e, ej]), List.find?_cons_of_neg (by simp [e, ej])]
          clear ih h
          induction r with
          | nil => rfl
          | cons q r ih =>
            by_cases eq : q.1 = k
            · rw [List.map_cons, if_pos eq, List.find?_cons_of_neg (by simp [eq, ej]), List.find?_cons_of_neg (by simp [eq, ej])]; exact ih
            · rw [List.map_cons, if_neg eq]
              by_cases e2 : q.1 = j
              · rw [List.find?_cons_of_pos (by simp [e2]), List.find?_cons_of_pos (by simp [e2])]
              · rw [List.find?_cons_of_neg (by simp [e2]), List.find?_cons_of_neg (by simp [e2])]; exact ih
      · rw [List.map_cons, if_neg e]
        have h' : (r.any fun kv => decide (kv.1 = k)) = true := by
          rw [List.any_cons] at h
          simpa [e] using h
        by_cases ej : p.1 = j
        · have : ¬ k = j := fun z => e (ej.trans z.symm)
          rw [if_neg this]
          unfold valD
          rw [List.find?_cons_of_pos (by simp [ej]), List.find?_cons_of_pos (by simp [ej])]
        · have := ih h'
          unfold valD at this ⊢
          rw [List.find?_cons_of_neg (by simp [ej]), List.find?_cons_of_neg (by simp [ej])]
          exact this
  · rename_i h
    have hk : ∀ p ∈ kvs, ¬ p.1 = k := fun p hp e => h (List.any_eq_true.mpr ⟨p, hp, decide_eq_true e⟩)
    clear h
    induction kvs with
    | nil =>
      unfold valD
      by_cases ej : k = j
      · rw [if_pos ej, List.nil_append, List.find?_cons_of_pos (by simp [ej])]; rfl
      · rw [if_neg ej, List.nil_append, List.find?_cons_of_neg (by simp [ej])]
    | cons p r ih =>
      have h1 := ih fun p hp => hk p (List.mem_cons_of_mem _ hp)
      by_cases ej : p.1 = j
      · have : ¬ k = j := fun z => hk p List.mem_cons_self (ej.trans z.symm)
        rw [if_neg this]
        unfold valD
        rw [List.cons_append, List.find?_cons_of_pos (by simp [ej]), List.find?_cons_of_pos (by simp [ej])]
      · unfold valD at h1 ⊢
        rw [List.cons_append, List.find?_cons_of_neg (by simp [ej]), List.find?_cons_of_neg (by simp [ej])]
        exact h1

/-! ### stores -/
abbrev DSet := D → D → D → W → (W → Prop) → Prop
def setD : DSet := fun o i v w Q => match o with
  | .ref p => (∃ xs k j, w.m p = some (.lst xs) ∧ i = .int k ∧ ixN xs.length k = some j ∧ Q (w.put p (.lst (xs.set j v)))) ∨
      ∃ kvs k, w.m p = some (.dic kvs) ∧ keyOf i = some k ∧ kvs.length < sizeLine ∧ Q (w.put p (.dic (putD kvs k v)))
  | _ => False
def rSetAny : V → V → V → Hp → (Hp → Prop) → Prop := fun o i v H Q => rSetL o i v H Q ∨ ∃ a H', o = .ref a ∧ DPut H a i v H' ∧ Q H'
theorem set_any {X : Cx} (hu : X.A.units + 1 < cLine) : PSet X rSetAny := by
  intro pins s σ H o i v ov iv u Q I ro ri rv h
  rcases h with h | ⟨a, H', rfl, g, q⟩
  · exact set_list pins s σ H o i v ov iv u Q I ro ri rv h
  · cases ro
    exact d_setItem hu I g ri rv fun s' I' => ⟨H', I', q⟩
def gdSub (to ti : DTE) : DTG := fun v env w Q => to env w fun o w1 => ti env w1 fun i w2 => setD o i v w2 fun w3 => Q env w3
theorem dg_sub {X : Cx} {Wv : WX} {o i : Expr} {to ti : DTE} {pos : Pos} (hu : X.A.units + 1 < cLine) (ho : DE X Wv o to) (hi : DE X Wv i ti)
    (ha : ∀ v, assign (.Subscript o i pos) X.env v = (do
      let ov ← holding [v] (eval o X.env)
      let iv ← holding [v, ov] (eval i X.env)
      standAt pos
      holding [v, ov, iv] (setItem ov iv v)
      release [v, ov, iv] []) := by intro _; rfl) : DG X Wv (.Subscript o i pos) [] (gdSub to ti) := by
  refine ⟨PG_imp (pg_sub ho.pe hi.pe (set_any hu) ha) fun v σ H Qv ⟨c, g, env, w, d, Q, B, r, q, k⟩ => ?_⟩
  refine bindE B q fun o H1 g1 w1 x l1 B1 r1 q1 => bindE B1 q1 fun i H2 g2 w2 y l2 B2 r2 q2 => ?_
  have r := r.le (l1.trans l2)
  have r1 := r1.le l2
  have fin : ∀ {p : Addr} {m0 m : MO} {h : HO}, w2.m p = some m0 → RepM X.K g2 m h → Q env (w2.put p m) → Qv σ (upd H2 p h) := fun e rm z =>
    k env _ σ _ g2 (l1.trans l2) (B2.step .rfl (B2.R.write e rm)) (fun _ _ => rfl) z
  cases r1 with
  | ref p =>
    rcases (show (∃ xs k j, _) ∨ ∃ kvs k, _ from q2) with ⟨xs, n, j, e, rfl, h, q3⟩ | ⟨kvs, ky, e, h, hl, q3⟩
    · cases r2
      obtain ⟨vs, e1, rv⟩ := B2.R.mlst e
      exact .inl ⟨p, vs, n, j, rfl, rfl, e1, by rw [rv.length]; exact h, fin e (.lst (rv.set j r)) q3⟩
    · obtain ⟨rfl, rfl⟩ := r2.key h
      obtain ⟨vs, e1, rv⟩ := B2.R.mdic e
      exact .inr ⟨p, _, rfl, DPut.k e1 (by rw [rv.length]; exact hl), fin e (.dic (rv.put r)) q3⟩
  | _ => exact False.elim q2
/-- del d[k] -/
def dDel (td ti : DTE) : DTS := fun D env w => td env w fun o w1 => ti env w1 fun i w2 => match o with
  | .ref p => ∃ kvs k, w2.m p = some (.dic kvs) ∧ keyOf i = some k ∧ (valD kvs k).isSome = true ∧ D.nx env (w2.put p (.dic (dropD kvs k)))
  | _ => False
theorem ds_del {X : Cx} {Wv : WX} {o i : Expr} {to ti : DTE} {pos tpos : Pos} (ho : DE X Wv o to) (hi : DE X Wv i ti) : DS X Wv (.Delete [.Subscript o i tpos] pos) (dDel to ti) :=
  ⟨PS_imp (ps_ddel ho.pe hi.pe) fun Dv σ H ⟨c, g, env, w, D, B, q, k⟩ => bindE B q fun o H1 g1 w1 x l1 B1 r1 q1 => bindE B1 q1 fun i H2 g2 w2 y l2 B2 r2 q2 => by
    have r1 := r1.le l2
    cases r1 with
    | ref p =>
      obtain ⟨kvs, ky, e, h, hs, q3⟩ := (show ∃ kvs k, _ from q2)
      obtain ⟨rfl, rfl⟩ := r2.key h
      obtain ⟨vs, e1, rv⟩ := B2.R.mdic e
      refine ⟨p, vs, ky, rfl, e1, rfl, ?_, k.nx env _ σ _ g2 (l1.trans l2) (B2.step .rfl (B2.R.write e (.dic rv.drop))) q3⟩
      rcases rv.val ky with ⟨_, z⟩ | ⟨v', d', z1, _, _⟩
      · rw [z] at hs; cases hs
      · rw [z1]; rfl
    | _ => exact False.elim q2⟩

/-! ### displays of dicts -/
def dDicM : DTE := fun _ w Q => ∀ p, w.m p = none → Q (.ref p) (w.put p (.dic []))
def dDic0 : DTE := fun _ w Q => Q (.dic []) w
theorem de_dicM {X : Cx} {Wv : WX} {pos : Pos} : DE X Wv (.Dict [] [] pos) dDicM :=
  ⟨PE_imp pe_dnewK fun σ H Qv ⟨c, g, env, w, Q, B, q, k⟩ p hp => k _ _ ⟨g, _, .ref p, .rfl, B.R.allocM hp (.dic .nil), .ref p, q p (B.R.noM hp)⟩⟩
theorem de_dic0 {X : Cx} {Wv : WX} {pos : Pos} : DE X Wv (.Dict [] [] pos) dDic0 :=
  ⟨PE_imp pe_dnewK fun σ H Qv ⟨c, g, env, w, Q, B, q, k⟩ p hp =>
    have l := Gh.add_le (o := .dK []) (B.R.noG hp)
    k _ _ ⟨_, w, .dic [], l, B.R.alloc hp, .dic Gh.add_at .nil, q⟩⟩
def dPairs : List (DTE × DTE) → En → W → (List (D × D) → W → Prop) → Prop
  | [], _, w, Q => Q [] w
  | (tk, tv) :: r, env, w, Q => tk env w fun x w1 => tv env w1 fun y w2 => dPairs r env w2 fun ps w3 => Q ((x, y) :: ps) w3
def keysOf : List (D × D) → Option (List (Key × D))
  | [] => some []
  | (k, d) :: r => (keyOf k).bind fun q => (keysOf r).map ((q, d) :: ·)
def dDisp (fin : List (Key × D) → W → DK → Prop) (trs : List (DTE × DTE)) : DTE := fun env w Q => dPairs trs env w fun ps w1 => ∃ kvs, keysOf ps = some kvs ∧ kvs.length ≤ 15 ∧ fin (mergeD [] kvs) w1 Q
def finD : List (Key × D) → W → DK → Prop := fun kvs w Q => Q (.dic kvs) w
def finDM : List (Key × D) → W → DK → Prop := fun kvs w Q => ∀ p, w.m p = none → Q (.ref p) (w.put p (.dic kvs))
def FinDOk (K : PySem.W.Frag) (fin : List (Key × D) → W → DK → Prop) : Prop := ∀ (c : Ck) (g : Gh) (w : W) (H : Hp) (p : Addr) (xs : List (Key × V)) (ds : List (Key × D)) (Q : DK), Rel K (c.fr p (.dK xs)) g w H → c.F p = none → RepK K g xs ds → fin ds w Q → PQ K c g Q (.ref p) H
theorem finD_ok {K : PySem.W.Frag} : FinDOk K finD := fun c g w H p xs ds Q R hF r q => by
  obtain ⟨l, R'⟩ := R.landF hF
  exact ⟨_, w, _, l, R', .dic Gh.add_at (r.le l), q⟩
theorem finDM_ok {K : PySem.W.Frag} : FinDOk K finDM := fun c g w H p xs ds Q R hF r q => ⟨g, _, _, .rfl, R.landM hF (.dic r), .ref p, q p R.noMF⟩
structure DPs (X : Cx) (Wv : WX) (pos : Pos) (keys : List (Option Expr)) (values : List Expr) (trs : List (DTE × DTE)) : Prop where
  pp : PPs X pos keys values (trs.map fun t => (liftE X.K Wv t.1, liftE X.K Wv t.2))
theorem dps_nil {X : Cx} {Wv : WX} {pos : Pos} : DPs X Wv pos [] [] [] := ⟨pps_nil⟩
theorem dps_cons {X : Cx} {Wv : WX} {pos : Pos} {k v : Expr} {ks : List (Option Expr)} {vs : List Expr} {tk tv : DTE} {trs : List (DTE × DTE)} (hk : DE X Wv k tk) (hv : DE X Wv v tv) (hr : DPs X Wv pos ks vs trs) : DPs X Wv pos (some k :: ks) (v :: vs) ((tk, tv) :: trs) := ⟨pps_cons hk.pe hv.pe hr.pp⟩
inductive RepPP (K : PySem.W.Frag) (g : Gh) : List (V × V) → List (D × D) → Prop
  | nil : RepPP K g [] []
  | cons {v u : V} {vs : List (V × V)} {d e : D} {ds : List (D × D)} : Rep K g v d → Rep K g u e → RepPP K g vs ds → RepPP K g ((v, u) :: vs) ((d, e) :: ds)
theorem RepPP.le {K : PySem.W.Frag} {g g' : Gh} (l : g.le g') : ∀ {vs : List (V × V)} {ds : List (D × D)}, RepPP K g vs ds → RepPP K g' vs ds
  | _, _, .nil => .nil
  | _, _, .cons a b r => .cons (a.le l) (b.le l) (RepPP.le l r)
theorem RepPP.keys {K : PySem.W.Frag} {g : Gh} : ∀ {vs : List (V × V)} {ds : List (D × D)} {kvs : List (Key × D)}, RepPP K g vs ds → keysOf ds = some kvs → ∃ xs : List (Key × V), vs = xs.map (fun kv => (kV kv.1, kv.2)) ∧ RepK K g xs kvs
  | _, _, _, .nil, e => by cases e; exact ⟨[], rfl, .nil⟩
  | _, _, _, .cons a b r, e => by
    simp only [keysOf, Option.bind_eq_some_iff, Option.map_eq_some_iff] at e
    obtain ⟨q, e1, kvs, e2, rfl⟩ := e
    obtain ⟨xs, rfl, rk⟩ := RepPP.keys r e2
    obtain ⟨rfl, _⟩ := a.key e1
    exact ⟨(q, _) :: xs, rfl, .cons b rk⟩
theorem pairs_lift {K : PySem.W.Frag} {Wv : WX} : ∀ {trs : List (DTE × DTE)} {c : Ck} {g : Gh} {env : En} {w : W} {σ : St} {H : Hp} {Q : List (D × D) → W → Prop} {Qv : List (V × V) → Hp → Prop}, Bx K Wv c g env w σ H → dPairs trs env w Q →
    (∀ vs H1 g1 w1 ds, g.le g1 → Bx K Wv c g1 env w1 σ H1 → RepPP K g1 vs ds → Q ds w1 → Qv vs H1) → tPairs (trs.map fun t => (liftE K Wv t.1, liftE K Wv t.2)) σ H Qv
  | [], c, g, env, w, σ, H, Q, Qv, B, q, k => k [] H g w [] .rfl B .nil q
  | (tk, tv) :: r, c, g, env, w, σ, H, Q, Qv, B, q, k => by
    refine bindE B q fun v H1 g1 w1 x l1 B1 r1 q1 => bindE B1 q1 fun u H2 g2 w2 y l2 B2 r2 q2 => ?_
    exact pairs_lift B2 q2 fun vs H3 g3 w3 ds l3 B3 r3 q3 => k _ H3 g3 w3 _ ((l1.trans l2).trans l3) B3 (.cons (r1.le (l2.trans l3)) (r2.le l3) r3) q3
theorem de_disp {X : Cx} {Wv : WX} {pos : Pos} {keys : List (Option Expr)} {values : List Expr} {trs : List (DTE × DTE)} {fin : List (Key × D) → W → DK → Prop} (hfin : FinDOk X.K fin) (h : DPs X Wv pos keys values trs) (hall : keys.all (·.isSome) = true := by rfl) (hl : keys.length = values.length := by rfl) (h0 : keys ≠ [] := by intro z; cases z)
    (h15 : keys.length ≤ 15 := by decide) : DE X Wv (.Dict keys values pos) (dDisp fin trs) := by
  refine ⟨PE_imp (pe_disp h.pp hall hl h0 h15) fun σ H Qv ⟨c, g, env, w, Q, B, q, k⟩ p hp => ?_⟩
  have hF : c.F p = none := B.R.noF hp
  have B1 : Bx X.K Wv (c.fr p (.dK [])) g env w σ (upd H p (.dK [])) := ⟨B.R.allocF hp, B.E, fun env' σ' H' cls d g' l e px => by
    refine B.X env' σ' H' cls d g' l e ?_
    obtain ⟨g1, w1, C, fs, e1, l1, R1, z⟩ := px
    refine ⟨g1, w1, C, fs, e1, l1, ?_, z⟩
    exact R1.unfr hF⟩
  refine pairs_lift B1 q fun vs H1 g1 w1 ds l1 B2 r1 q1 => ?_
  obtain ⟨kvs, e, hz, q1⟩ := q1
  obtain ⟨xs, rfl, rk⟩ := r1.keys e
  refine ⟨(B2.R.frm p _ upd_same).1, xs, rfl, by rw [rk.length]; exact hz, ?_⟩
  exact k _ _ ((hfin c g1 w1 _ p _ _ Q (B2.R.writeF) hF (rk.merge .nil) q1).up l1)
end DL

/-! DLj: methods of lists; the pen. -/
namespace DL
open PySem PySem.Spec PyProof.Rows L2

/-! ### methods of lists -/
def isML (x : D) (w : W) : Prop := match x with
  | .ref p => ∃ xs, w.m p = some (.lst xs)
  | .lst _ => True
  | _ => False
theorem isML_ty {K : PySem.W.Frag} {c : Ck} {g : Gh} {w : W} {H : Hp} (R : Rel K c g w H) {v : V} {x : D} (r : Rep K g v x) (h : isML x w) : tyV K "list" v H := by
  cases r with
  | ref p =>
    obtain ⟨xs, e⟩ := h
    obtain ⟨vs, e1, _⟩ := R.mlst e
    exact .inl ⟨rfl, _, SqL.of e1⟩
  | lst s _ => exact .inl ⟨rfl, _, R.sqL s⟩
  | _ => exact False.elim h
def dBM0 (r : D → DRC) (to : DTE) : DTE := fun env w Q => to env w fun x w1 => isML x w1 ∧ r x [] w1 Q
def dBM (r : D → DRC) (to : DTE) (t : DTA) : DTE := fun env w Q => to env w fun x w1 => isML x w1 ∧ t env w1 fun xs w2 => r x xs w2 Q
section
variable {X : Cx} {Wv : WX} {o e : Expr} {es : List Expr} {to : DTE} {t : DTA} {id : String} {name : Str} {apos cpos : Pos} {r : D → DRC}
theorem de_bm0 (slot : Slot "list" name id) (hty : typeOf (.builtin id) = pure (.type "method_descriptor")) (rule : MtD X id r) (ho : DE X Wv o to)
    (hbase : attributeBase o name X.env (eval o X.env) = eval o X.env := by rfl) (hline : (apos.endLine == cpos.line) = true := by rfl) : DE X Wv (.Call (.Attribute o name apos) [] [] cpos) (dBM0 r to) := by
  obtain ⟨r0, h0, imp⟩ := rule
  refine ⟨PE_imp (pe_bm0 PySem.F.plainAttrs_list slot hty h0 ho.pe hbase hline) fun σ H Qv ⟨c, g, env, w, Q, B, q, k⟩ => bindE B q fun v H1 g1 w1 x l1 B1 r1 q1 => ?_⟩
  exact ⟨isML_ty B1.R r1 q1.1, imp c g1 w1 H1 _ _ [] [] Q Qv B1.R r1 .nil q1.2 fun v H' z => k v H' (z.up l1)⟩
theorem de_bm (slot : Slot "list" name id) (hty : typeOf (.builtin id) = pure (.type "method_descriptor")) (rule : MtD X id r) (ho : DE X Wv o to) (ha : DA X Wv (e :: es) t)
    (hbase : attributeBase o name X.env (eval o X.env) = eval o X.env := by rfl)
    (hfew : ((backTo cpos (starEach (e :: es) X.env)).all (fun x => !x.1) && (backToKw cpos (keywordEach [] X.env)).all (fun x => x.1.isSome)
      && decide ((e :: es).length + ([] : List Keyword).length + (if ([] : List Keyword).isEmpty then 0 else 1) < 30)) = true := by rfl)
    (hline : (apos.endLine == cpos.line) = true := by rfl) (hs : starEach (e :: es) X.env = (false, eval e X.env) :: starEach es X.env := by rfl) (hplain : (backTo cpos (starEach es X.env)).any (·.1) = false := by rfl) :
    DE X Wv (.Call (.Attribute o name apos) (e :: es) [] cpos) (dBM r to t) := by
  obtain ⟨r0, h0, imp⟩ := rule
  refine ⟨PE_imp (pe_bm PySem.F.plainAttrs_list slot hty h0 ho.pe ha.pa hbase hfew hline hs hplain) fun σ H Qv ⟨c, g, env, w, Q, B, q, k⟩ => bindE B q fun v H1 g1 w1 x l1 B1 r1 q1 => ?_⟩
  exact ⟨isML_ty B1.R r1 q1.1, bindA B1 q1.2 fun vs H2 g2 w2 xs l2 B2 r2 q2 => imp c g2 w2 H2 _ _ vs xs Q Qv B2.R (r1.le l2) r2 q2 fun v H' z => k v H' ((z.up l2).up l1)⟩
def appendR : D → DRC := fun x ds w Q => match x, ds with
  | .ref p, [y] => ∃ xs, w.m p = some (.lst xs) ∧ xs.length < sizeLine ∧ Q .non (w.put p (.lst (xs ++ [y])))
  | _, _ => False
theorem md_append : MtD X "list.append" appendR := by
  refine ⟨_, mt_append, fun c g w H v x vs ds Q Qv R r1 r2 q k => ?_⟩
  unfold appendR at q
  split at q
  · obtain ⟨u, rfl, a⟩ := r2.one; cases r1
    obtain ⟨xs, e, h, q⟩ := q
    obtain ⟨ys, e1, r⟩ := R.mlst e
    exact ⟨_, _, _, rfl, rfl, e1, by rw [r.length]; exact h, k _ _ ⟨g, _, .non, .rfl, R.write e (.lst (r.append (.cons a .nil))), .non, q⟩⟩
  · exact q.elim
def extendR : D → DRC := fun x ds w Q => match x, ds with
  | .ref p, [.lst ys] => ∃ xs, w.m p = some (.lst xs) ∧ xs.length + ys.length ≤ sizeLine ∧ Q .non (w.put p (.lst (xs ++ ys)))
  | _, _ => False
def popR : D → DRC := fun x ds w Q => match x, ds with
  | .ref p, [] => ∃ xs y, w.m p = some (.lst xs) ∧ xs[xs.length - 1]? = some y ∧ Q y (w.put p (.lst xs.dropLast))
  | .ref p, [.int i] => ∃ xs k y, w.m p = some (.lst xs) ∧ -(2 ^ 63) ≤ i ∧ i < 2 ^ 63 ∧ seqIndex? i xs.length = some k ∧ xs[k]? = some y ∧ Q y (w.put p (.lst (xs.eraseIdx k)))
  | _, _ => False
theorem md_pop : MtD X "list.pop" popR := by
  refine ⟨_, MtR.or mt_pop mt_popAt, fun c g w H v x vs ds Q Qv R r1 r2 q k => ?_⟩
  unfold popR at q
  split at q
  · cases r1; cases r2
    obtain ⟨xs, y, e, h, q⟩ := q
    obtain ⟨ys, e1, r⟩ := R.mlst e
    obtain ⟨u, h1, ru⟩ := r.get h
    exact .inl ⟨_, _, u, rfl, rfl, e1, by rw [r.length]; exact h1, k _ _ ⟨g, _, y, .rfl, R.write e (.lst r.dropLast), ru, q⟩⟩
  · obtain ⟨u, rfl, a⟩ := r2.one; cases r1; cases a
    obtain ⟨xs, j, y, e, h1, h2, h3, h4, q⟩ := q
    obtain ⟨ys, e1, r⟩ := R.mlst e
    obtain ⟨u, h5, ru⟩ := r.get h4
    exact .inr ⟨_, _, _, j, u, rfl, rfl, e1, h1, h2, by rw [r.length]; exact h3, h5, k _ _ ⟨g, _, y, .rfl, R.write e (.lst (r.eraseIdx j)), ru, q⟩⟩
  · exact q.elim
def reverseR : D → DRC := fun x ds w Q => match x, ds with
  | .ref p, [] => ∃ xs, w.m p = some (.lst xs) ∧ Q .non (w.put p (.lst xs.reverse))
  | _, _ => False
theorem md_reverse : MtD X "list.reverse" reverseR := by
  refine ⟨_, mt_reverse, fun c g w H v x vs ds Q Qv R r1 r2 q k => ?_⟩
  unfold reverseR at q
  split at q
  · cases r1; cases r2
    obtain ⟨xs, e, q⟩ := q
    obtain ⟨ys, e1, r⟩ := R.mlst e
    exact ⟨_, _, rfl, rfl, e1, k _ _ ⟨g, _, .non, .rfl, R.write e (.lst r.reverse), .non, q⟩⟩
  · exact q.elim
def clearR : D → DRC := fun x ds w Q => match x, ds with
  | .ref p, [] => ∃ xs, w.m p = some (.lst xs) ∧ Q .non (w.put p (.lst []))
  | _, _ => False
theorem md_clear : MtD X "list.clear" clearR := by
  refine ⟨_, mt_clear, fun c g w H v x vs ds Q Qv R r1 r2 q k => ?_⟩
  unfold clearR at q
  split at q
  · cases r1; cases r2
    obtain ⟨xs, e, q⟩ := q
    obtain ⟨ys, e1, r⟩ := R.mlst e
    exact ⟨_, _, rfl, rfl, e1, k _ _ ⟨g, _, .non, .rfl, R.write e (.lst .nil), .non, q⟩⟩
  · exact q.elim
end

/-! ### the pen -/
def intsOf : List D → Option (List Int)
  | [] => some []
  | .int b :: r => (intsOf r).map (b :: ·)
  | _ => none
theorem RepL.ints {K : PySem.W.Frag} {g : Gh} : ∀ {vs : List V} {ds : List D} {bs : List Int}, RepL K g vs ds → intsOf ds = some bs → vs = bs.map V.int
  | _, _, _, .nil, e => by cases e; rfl
  | _, _, _, .cons a r, e => by
    cases a <;> simp only [intsOf, Option.map_eq_some_iff, reduceCtorEq] at e
    obtain ⟨bs, e1, rfl⟩ := e
    rw [RepL.ints r e1]; rfl
theorem intsOf_map (bs : List Int) : intsOf (bs.map D.int) = some bs := by
  induction bs with
  | nil => rfl
  | cons b r ih => simp [intsOf, ih]
/-- a list [cells, 0, 0] becomes the pen -/
def dMkPen (t : DTE) : DTE := fun env w Q => t env w fun x w1 => match x with
  | .ref p => ∃ cs ns, w1.m p = some (.lst [.lst cs, .int 0, .int 0]) ∧ intsOf cs = some ns ∧ ns.length ≤ 60 ∧ Q .pen (w1.del p)
  | _ => False
theorem Rel.mkPen {K : PySem.W.Frag} {c : Ck} {g : Gh} {w : W} {H : Hp} (R : Rel K c g w H) {p : Addr} {m : MO} {xs : List V} (h : w.m p = some m) (hx : H p = some (.lst xs)) (hp : PenR K g.G xs w.n) :
    g.le ⟨g.G, fun a => g.pm a || decide (a = p)⟩ ∧ Rel K c ⟨g.G, fun a => g.pm a || decide (a = p)⟩ (w.del p) H := by
  obtain ⟨hG, hF, hP, o, h0, _⟩ := R.mu p m h
  have le : g.le ⟨g.G, fun a => g.pm a || decide (a = p)⟩ := ⟨fun _ _ e => e, fun a e => by show (g.pm a || _) = true; rw [e]; rfl⟩
  refine ⟨le, R.imm, R.lck, fun a m' e => ?_, fun a q e => ?_, fun a e => ?_, R.ex⟩
  · have ha : a ≠ p := fun z => by
      subst z
      have e' : delM w.m a a = some m' := e
      rw [delM_same] at e'; cases e'
    have e' : delM w.m p a = some m' := e
    rw [delM_ne ha] at e'
    obtain ⟨h1, h2, h3, o', h4, h5⟩ := R.mu a m' e'
    exact ⟨h1, h2, by show (g.pm a || decide (a = p)) = false; rw [h3, decide_eq_false ha]; rfl, o', h4, h5.le le⟩
  · have ha : a ≠ p := fun z => by rw [z, hF] at e; cases e
    obtain ⟨h1, h2, h3⟩ := R.frm a q e
    exact ⟨h1, h2, by show (g.pm a || decide (a = p)) = false; rw [h3, decide_eq_false ha]; rfl⟩
  · have e' : (g.pm a || decide (a = p)) = true := e
    rcases Bool.or_eq_true _ _ ▸ e' with z | z
    · obtain ⟨h1, ys, h2, h3⟩ := R.pen a z
      exact ⟨h1, ys, h2, h3⟩
    · have ha : a = p := of_decide_eq_true z
      subst ha
      exact ⟨hG, xs, hx, hp⟩
theorem de_mkpen {X : Cx} {Wv : WX} {e : Expr} {t : DTE} (h : DE X Wv e t) : DE X Wv e (dMkPen t) :=
  ⟨PE_imp h.pe fun σ H Qv ⟨c, g, env, w, Q, B, q, k⟩ => bindE B q fun v H1 g1 w1 x l1 B1 r1 q1 => by
    cases r1 with
    | ref p =>
      obtain ⟨cs, ns, e, ei, hl, q2⟩ := (show ∃ cs ns, _ from q1)
      obtain ⟨vs, e1, r⟩ := B1.R.mlst e
      cases r with
      | cons a r => cases r with
        | cons b r => cases r with
          | cons d r =>
            cases r; cases b; cases d
            cases a with
            | lst s r =>
              have z := r.ints ei
              subst z
              obtain ⟨l2, R2⟩ := B1.R.mkPen e e1 ⟨_, ns, 0, 0, rfl, s, hl, Nat.zero_le _, Int.le_refl _⟩
              exact k _ _ ⟨_, _, .pen, l1.trans l2, R2, .pen (by show (g1.pm p || decide (p = p)) = true; simp), q2⟩
    | _ => exact False.elim q1⟩
end DL

/-! DLk: the law's own call. -/
namespace DL
open PySem PySem.Spec PyProof.Rows L2

/-- the law's promise: a list of at most 63 ints goes in, True comes out -/
def spLaw : DSp := fun ds w Q => ∃ ns : List Int, ds = [.lst (ns.map .int)] ∧ ns.length ≤ 63 ∧ w.n = 0 ∧ ∀ w', Q (.bl true) w'
theorem repInts {K : PySem.W.Frag} {g : Gh} : ∀ ns : List Int, RepL K g (ns.map V.int) (ns.map D.int)
  | [] => .nil
  | n :: ns => .cons (.int n) (repInts ns)
section
variable {P : Program} {w : World} {K : PySem.W.Frag} {mg mb : Str → Option Value} {k : Nat} {fa a : Addr} {x : Str} {s₁ : Shared} {vs : List Value} {ns : List Int}
theorem sp_law {H : Hp} (hO : ∀ b, H b = none ∨ b = a ∧ ∃ o, H b = some (.frz o (.lst (ns.map V.int)))) (hS : SqL K H a (ns.map V.int)) (hl : ns.length ≤ 63) :
    liftSp K spLaw [.ref a] H (fun v _ => v = .bl true) fun _ _ _ => False := by
  refine ⟨⟨fun _ => none, fun _ => none, noE⟩, ⟨H, fun _ => false⟩, ⟨fun _ => none, 0, noE⟩, [.lst (ns.map .int)], fun d _ => d = .bl true, ⟨fun b u e => .inl ⟨rfl, e⟩, fun b o e => ?_, fun b m e => ?_, fun b o e => ?_, fun b e => ?_, rfl⟩,
    .cons (.lst hS (repInts ns)) .nil, ⟨ns, rfl, hl, rfl, fun _ => rfl⟩, fun v H' ⟨g', w', d, _, _, r, q⟩ => ?_, fun _ => rfl, fun cls d H' g' _ ⟨_, _, _, _, _, _, _, z, _⟩ => z⟩
  · cases (show (none : Option Obj) = some o from e)
  · cases (show (none : Option MO) = some m from e)
  · cases (show (none : Option HO) = some o from e)
  · cases (show false = true from e)
  · have q : d = .bl true := q
    subst q
    cases r
    rfl
theorem law_run (kin : K.In s₁.heap) (hns : s₁.heap.Ns mainGlobals mg) (hb : s₁.heap.Ns builtinsNs mb) (hbb : ∀ x : Str, x ≠ "__name__" → mb x = bootBuiltins x) (hlim : s₁.heap.NoLimit) (hg : s₁.gens = #[])
    (ha : s₁.heap.get? a = some { cls := .type "list", data := .seq vs.toArray }) (hi : IntsAre vs ns) (hl : ns.length ≤ 63) (hr : Room k callerA)
    (hfa : mg x = some (.ref fa)) (F : ∀ base : Heap, K.In base → base.Ns mainGlobals mg → DCal P w K mg base k x 1 spLaw) :
    codeAny (model P w) callerA (.call (.ref fa) ⟨[.ref a], []⟩) (fun r s' => r = .ok (.ret (.bool true)) ∧ OldK s₁.heap s'.heap ∧ s'.os = s₁.os ∧ AllBare s'.gens) s₁ := by
  have rv := vals_ints hi
  have hz : ns.length ≤ sizeLine := Nat.le_trans hl (by decide)
  have go : ∀ H : Hp, (∀ b, H b = none ∨ b = a ∧ ∃ o, H b = some (.frz o (.lst (ns.map V.int)))) → SqL K H a (ns.map V.int) → HOk P w H s₁.heap → (H a ≠ none → K.lookup a = none) →
      codeAny (model P w) callerA (.call (.ref fa) ⟨[.ref a], []⟩) (fun r s' => r = .ok (.ret (.bool true)) ∧ OldK s₁.heap s'.heap ∧ s'.os = s₁.os ∧ AllBare s'.gens) s₁ := by
    intro H hO hS hok hK
    have dicts : ∀ {b : Addr} {o : Obj} {es : Array DictEntry} {ep : Nat}, s₁.heap.get? b = some o → o.data = .dict es ep → H b = none := fun {b o es ep} e d =>
      (hO b).elim id fun ⟨eb, _⟩ => by
        rw [eb, ha] at e
        cases e
        cases (show Data.seq vs.toArray _ = Data.dict es ep from d)
    have up : ∀ {b : Addr} {m : Str → Option Value}, s₁.heap.Ns b m → (hidT s₁.heap H).Ns b m := fun ⟨o, es, ep, e, d, r⟩ => ⟨o, es, ep, hidT_get e (dicts e d), d, r⟩
    have kb : K.In (hidT s₁.heap H) := fun b o e => hidT_get (kin b o e) ((hO b).elim id fun ⟨eb, o', z⟩ => by
      have := hK (by rw [← eb, z]; simp)
      rw [← eb, e] at this
      cases this)
    have lim : (hidT s₁.heap H).NoLimit := let ⟨mc, h1, h2⟩ := hlim; ⟨mc, up h1, h2⟩
    have e0 : Env0 P w K mg (hidT s₁.heap H) callerA [] s₁ H :=
      { frames := rfl, mod := ⟨kb, up hns, ⟨mb, up hb, hbb⟩, lim⟩, bs := fun b o e => of_hidT e, bsz := Nat.le_of_eq (hidT_size _ _), funs := trivial, frf := fun b hb => (List.not_mem_nil hb).elim, hok := hok, bare := .of_eq hg }
    obtain ⟨f', fd, ps, FF, hm, _, bd, pl⟩ := (F _ kb (up hns)).ex
    rw [hfa] at hm
    cases hm
    have bt := bd s₁ [.ref a] kin (by rw [pl]; rfl)
    refine codeAny_mono (FF.run callerA [] s₁ H _ [.ref a] [.ref a] _ _ hr rfl e0 bt (.cons rfl .nil) (sp_law hO hS hl)) fun r s' h => ?_
    match r, h with
    | .error e, ⟨_, _, _, _, _, _, _, _, _, _, _, _, z⟩ => exact z.elim
    | .ok (.ret u), ⟨v, H', os, bare, un, hok', r', q⟩ =>
      have q : v = .bl true := q
      subst q
      have r' : u = Value.bool true := r'
      subst r'
      refine ⟨rfl, OldK.of_keep fun b o e => ?_, os, bare⟩
      rcases hO b with z | ⟨_, ob, z⟩
      · exact un.keep b o e z (fun m => List.not_mem_nil m) (fun m => List.not_mem_nil m)
      · have e1 := (hok b _ z).1
        rw [e] at e1
        cases e1
        exact (hok' b _ (un.frzs b _ _ z)).1
  cases hk : K.lookup a with
  | some o =>
    have e := kin a o hk
    rw [ha] at e
    cases e
    exact go (fun _ => none) (fun _ => .inl rfl) (.inr ⟨_, vs.toArray, _, hk, rfl, rfl, rfl, by rw [List.size_toArray, hi.length]; exact hz, by simpa using rv⟩) (fun b u z => by cases (show (none : Option HO) = some u from z)) fun z => absurd rfl z
  | none =>
    refine go (upd (fun _ => none) a (.frz { cls := .type "list", data := .seq vs.toArray } (.lst (ns.map V.int)))) (fun b => ?_) (.inl (.inr ⟨_, upd_same⟩)) (fun b u z => ?_) fun _ => hk
    · by_cases e : b = a
      · subst e; exact .inr ⟨rfl, _, upd_same⟩
      · exact .inl (upd_ne e)
    · by_cases e : b = a
      · subst e
        rw [upd_same] at z
        cases z
        exact ⟨ha, by rw [List.length_map]; exact hz, vs, _, rv, ha⟩
      · rw [upd_ne e] at z
        cases z
end
/-- the goal that k_head leaves (case hc), from the law's promise -/
theorem walkG {l : PySem.W.OpenLaw} {k : Nat} {q : Program} {loose : List Str} {XP : (Str → Option Value) → Heap → Prop} {YP : World → Heap → Prop} {d : DefRec} {K : Params → PySem.W.Frag}
    (hn : l.most = some 63) (hdf : d.params.defaults = []) (hr : Room k callerA) (hY : ∀ (w : World) (h : Heap), YP w h → (K w.params).In h)
    (F : ∀ (w : World) (mg : Str → Option Value) (h : Heap), (K w.params).In h → h.Ns mainGlobals mg → ∀ base : Heap, DCal l.prog w (K w.params) mg base k d.name 1 spLaw) :
    PySem.W.WalkO q loose XP YP l.row.toRowW d [] (fun f vs => PySem.call f vs) := by
  refine Att.attach_call hn hdf fun w s₀ s₁ mg mb fa o pm cd doc a vs ns G Y ho hd hcd hmg hobj hints hlen hg => ?_
  exact law_run (hY w _ Y) G.T.g G.T.b G.T.builtins G.T.nolimit hg hobj hints hlen hr hmg fun base kb nb => F w mg base kb nb base
end DL

/-! DLl: a def of the text; the pen packed; small rules. -/
namespace DL
open PySem PySem.Spec PyProof.Rows L2

structure FnAt (K : PySem.W.Frag) (mg : Str → Option Value) (x : Str) (st : Stmt) (ps : List Str) : Prop where
  ex : ∃ f fd, Fun K x x st f fd ∧ mg x = some (.ref f) ∧ Binds K fd ps []
theorem de_neg {X : Cx} {Wv : WX} {a : Expr} {ta : DTE} {pos : Pos} (ha : DE X Wv a ta) : DE X Wv (.UnaryOp .USub a pos) (fun env w Q => ta env w fun x w1 => match x with | .int i => Q (.int (-i)) w1 | _ => False) :=
  ⟨PE_imp (pe_un un_neg ha.pe) fun σ H Qv ⟨c, g, env, w, Q, B, q, k⟩ => bindE B q fun v H1 g1 w1 x l1 B1 r1 q1 => by
    cases r1 with
    | int i => exact ⟨i, rfl, k _ _ ⟨g1, w1, _, l1, B1.R, .int _, q1⟩⟩
    | _ => exact False.elim q1⟩

/-! ### the pen in a def's own hands -/
/-- a pen's list -/
def penL (cs : List D) (i r : Int) : MO := .lst [.lst cs, .int i, .int r]
/-- as it is within the pen's own defs -/
def spDrawU : DSp := fun ds w Q => match ds with
  | [.ref p, .int b] => ∃ cs ns i r, w.m p = some (penL cs i r) ∧ intsOf cs = some ns ∧ ns.length ≤ 60 ∧ 0 ≤ i ∧ i < 2 ^ 31 ∧ 0 ≤ r ∧ 0 < b ∧ b < 2 ^ 30 ∧
      ∀ d i' r', 0 ≤ d → d < b → 0 ≤ i' → i' ≤ i + 1 → 0 ≤ r' → Q (.int d) (w.put p (penL cs i' r'))
  | _ => False
def spNextU : DSp := fun ds w Q => match ds with
  | [.ref p] => ∃ cs ns i r, w.m p = some (penL cs i r) ∧ intsOf cs = some ns ∧ ns.length ≤ 60 ∧ 0 ≤ i ∧ i < 2 ^ 31 ∧ 0 ≤ r ∧
      ∀ v i', 0 ≤ v → 0 ≤ i' → i' ≤ i + 1 → Q (.int v) (w.put p (penL cs i' r))
  | _ => False
/-- a draw below b -/
def spDraw : DSp := fun ds w Q => match ds with
  | [.pen, .int b] => 0 < b ∧ b < 2 ^ 30 ∧ w.n < 2 ^ 31 ∧ ∀ d : Int, 0 ≤ d → d < b → Q (.int d) (w.tick 1)
  | _ => False
/-- all but the pen at p kept as it stands, the pen opened -/
theorem Rel.unpen {K : PySem.W.Frag} {c : Ck} {g : Gh} {w : W} {H : Hp} (R : Rel K c g w H) {p : Addr} (h : g.pm p = true) :
    ∃ cs ns i r, intsOf cs = some ns ∧ ns.length ≤ 60 ∧ 0 ≤ i ∧ i ≤ (w.n : Int) ∧ 0 ≤ r ∧
      Rel K { c with F := fun a => match w.m a with | some _ => H a | none => c.F a } ⟨g.G, fun a => g.pm a && !decide (a = p)⟩ ⟨updM (fun _ => none) p (penL cs i r), w.n, w.e⟩ H := by
  obtain ⟨hG, xs, hx, ca, ns, i, r, rfl, hs, hl, hi, hr⟩ := R.pen p h
  have hM : w.m p = none := by
    cases q : w.m p with
    | none => rfl
    | some m =>
      obtain ⟨_, _, z, _⟩ := R.mu p m q
      rw [h] at z; cases z
  have hF : c.F p = none := by
    cases q : c.F p with
    | none => rfl
    | some o =>
      obtain ⟨_, _, z⟩ := R.frm p o q
      rw [h] at z; cases z
  refine ⟨ns.map .int, ns, i, r, intsOf_map ns, hl, Int.natCast_nonneg i, by omega, hr, R.imm, R.lck, fun a m e => ?_, fun a q e => ?_, fun a e => ?_, R.ex⟩
  · by_cases ha : a = p
    · subst ha
      have e' : updM (fun _ => none) a _ a = some m := e
      rw [updM_same] at e'; cases e'
      refine ⟨hG, ?_, by simp, _, hx, .lst (.cons (.lst hs (repInts ns)) (.cons (.int _) (.cons (.int _) .nil)))⟩
      show (match w.m a with | some _ => H a | none => c.F a) = none
      rw [hM]; exact hF
    · have e' : updM (fun _ => none) p _ a = some m := e
      rw [updM_ne ha] at e'; cases e'
  · have e : (match w.m a with | some _ => H a | none => c.F a) = some q := e
    cases z : w.m a with
    | none =>
      rw [z] at e
      obtain ⟨h1, h2, h3⟩ := R.frm a q e
      exact ⟨h1, h2, by simp [h3]⟩
    | some m =>
      rw [z] at e
      obtain ⟨h1, h2, h3, _⟩ := R.mu a m z
      exact ⟨e, h1, by simp [h3]⟩
  · have e' : (g.pm a && !decide (a = p)) = true := e
    rw [Bool.and_eq_true] at e'
    obtain ⟨h1, ys, h2, h3⟩ := R.pen a e'.1
    exact ⟨h1, ys, h2, h3⟩
theorem Rel.repen {K : PySem.W.Frag} {c : Ck} {g g2 : Gh} {w w2 : W} {H H2 : Hp} (R : Rel K c g w H) {p : Addr} (h : g.pm p = true) {cs : List D} {ns : List Int} {i r : Int} (hi : intsOf cs = some ns) (hl : ns.length ≤ 60) (h0 : 0 ≤ i) (h1 : i ≤ (w.n : Int) + 1) (hr : 0 ≤ r)
    (l : (⟨g.G, fun a => g.pm a && !decide (a = p)⟩ : Gh).le g2) {e' : En → Str → Option (List (Str × D)) → Mem → Nat → Prop} (R2 : Rel K { L := c.L, F := fun a => match w.m a with | some _ => H a | none => c.F a, e := e' } g2 w2 H2) (hm : w2.m p = some (penL cs i r)) (hn : w2.n ≤ w.n + 1) :
    ∃ g3, g.le g3 ∧ g2.le g3 ∧ Rel K c g3 (w.tick 1) H2 := by
  obtain ⟨hG, hF, hP, o, ho, rm⟩ := R2.mu p _ hm
  cases rm with
  | lst rm =>
    have rv := rm
    cases rm with
    | cons ra rm => cases rm with
      | cons rb rm => cases rm with
        | cons rc rm =>
          cases rm; cases rb; cases rc
          cases ra with
          | lst sa ra =>
            have ea := ra.ints hi
            subst ea
            have l3 : g2.le ⟨g2.G, fun a => g2.pm a || decide (a = p)⟩ := ⟨fun _ _ e => e, fun a e => by show (g2.pm a || _) = true; rw [e]; rfl⟩
            have lg : g.le ⟨g2.G, fun a => g2.pm a || decide (a = p)⟩ := ⟨fun a u e => l.G a u e, fun a e => by
              show (g2.pm a || decide (a = p)) = true
              by_cases ha : a = p
              · rw [decide_eq_true ha, Bool.or_true]
              · have := l.pm a (by show (g.pm a && !decide (a = p)) = true; rw [e, decide_eq_false ha]; rfl)
                rw [this]; rfl⟩
            have noM : w.m p = none := by
              cases q : w.m p with
              | none => rfl
              | some m =>
                obtain ⟨_, _, z, _⟩ := R.mu p m q
                rw [h] at z; cases z
            have noF : c.F p = none := by
              cases q : c.F p with
              | none => rfl
              | some o =>
                obtain ⟨_, _, z⟩ := R.frm p o q
                rw [h] at z; cases z
            refine ⟨_, lg, l3, R2.imm, R2.lck, fun a m e => ?_, fun a q e => ?_, fun a e => ?_, R.ex⟩
            · have e : w.m a = some m := e
              obtain ⟨h1, h2, h3, o', h4, h5⟩ := R.mu a m e
              obtain ⟨k1, k2, k3⟩ := R2.frm a o' (by show (match w.m a with | some _ => H a | none => c.F a) = some o'; rw [e]; exact h4)
              have ha : a ≠ p := fun z => by rw [z, noM] at e; cases e
              exact ⟨k2, h2, by show (g2.pm a || decide (a = p)) = false; rw [k3, decide_eq_false ha]; rfl, o', k1, h5.le lg⟩
            · have em : w.m a = none := by
                cases q' : w.m a with
                | none => rfl
                | some m =>
                  obtain ⟨_, z, _⟩ := R.mu a m q'
                  rw [e] at z; cases z
              obtain ⟨k1, k2, k3⟩ := R2.frm a q (by show (match w.m a with | some _ => H a | none => c.F a) = some q; rw [em]; exact e)
              have ha : a ≠ p := fun z => by rw [z, noF] at e; cases e
              exact ⟨k1, k2, by show (g2.pm a || decide (a = p)) = false; rw [k3, decide_eq_false ha]; rfl⟩
            · have e' : (g2.pm a || decide (a = p)) = true := e
              by_cases ha : a = p
              · subst ha
                obtain ⟨j, rfl⟩ : ∃ j : Nat, i = j := ⟨i.toNat, by omega⟩
                exact ⟨hG, _, ho, _, ns, j, r, rfl, sa, hl, by show j ≤ w.n + 1; omega, hr⟩
              · rw [decide_eq_false ha, Bool.or_false] at e'
                obtain ⟨h1, ys, h2, h3⟩ := R2.pen a e'
                exact ⟨h1, ys, h2, h3.le .rfl hn⟩
theorem draw_pack {K : PySem.W.Frag} {vs : List V} {H : Hp} {Q : VK} {E : XK} (h : liftSp K spDraw vs H Q E) : liftSp K spDrawU vs H Q E := by
  obtain ⟨c, g, w, ds, Q0, R, r, h, k1, k2, k3⟩ := h
  unfold spDraw at h
  split at h
  · rename_i b
    obtain ⟨h1, h2, h3, h4⟩ := h
    obtain ⟨v, u, rfl, ra, rb⟩ := r.two
    cases ra with
    | @pen p hp =>
      obtain ⟨cs, ns, i, rr, e1, e2, e3, e4, e5, R'⟩ := R.unpen hp
      refine ⟨_, _, W.mute ⟨updM (fun _ => none) p (penL cs i rr), w.n, w.e⟩, [.ref p, .int b], fun d w' => ∃ d' cs' i' r', d = .int d' ∧ 0 ≤ d' ∧ d' < b ∧ intsOf cs' = some ns ∧ 0 ≤ i' ∧ i' ≤ i + 1 ∧ 0 ≤ r' ∧ w'.m p = some (penL cs' i' r') ∧ w'.n = w.n, R'.mute,
        .cons (.ref p) (.cons (by cases rb; exact .int b) .nil), ⟨cs, ns, i, rr, by show updM (fun _ => none) p (penL cs i rr) p = _; exact updM_same, e1, e2, e3, by omega, e5, h1, h2, fun d i' r' q1 q2 q3 q4 q5 => ⟨d, cs, i', r', rfl, q1, q2, e1, q3, q4, q5, by show updM (updM (fun _ => none) p (penL cs i rr)) p (penL cs i' r') p = _; exact updM_same, rfl⟩⟩, fun v H' ⟨g', w', d, l, R2, rd, d', cs', i', r', z0, z1, z2, z3, z4, z5, z6, z7, z8⟩ => ?_, fun _ => rfl, fun cls d H' g' l' ⟨_, _, _, _, _, _, _, z, _⟩ => z.elim⟩
      · subst z0
        cases rd
        obtain ⟨g3, l1, l2, R3⟩ := R.repen hp z3 e2 z4 (by omega) z6 l R2 z7 (by omega)
        exact k1 _ _ ⟨g3, _, _, l1, R3, .int d', h4 d' z1 z2⟩
  · exact h.elim
end DL

/-! DLm: small words for the readings. -/
namespace DL
open PySem PySem.Spec PyProof.Rows L2

/-! ### ways -/
theorem ifb {b : Bool} {A B : Prop} (h1 : b = true → A) (h2 : b = false → B) : if b = true then A else B := by
  cases b with
  | true => rw [if_pos rfl]; exact h1 rfl
  | false => rw [if_neg Bool.false_ne_true]; exact h2 rfl
theorem ifn {b : Bool} {A B : Prop} (h1 : b = true → B) (h2 : b = false → A) : if (!b) = true then A else B := by
  cases b with
  | true => exact h1 rfl
  | false => exact h2 rfl
theorem ifx {b : Bool} {A B : Prop} (h1 : b = true → B) (h2 : b = false → A) : if (true ^^ b) = true then A else B := by
  cases b with
  | true => exact h1 rfl
  | false => exact h2 rfl
theorem ify {b : Bool} {A B : Prop} (h1 : b = true → A) (h2 : b = false → B) : if (false ^^ b) = true then A else B := by
  cases b with
  | true => exact h1 rfl
  | false => exact h2 rfl
theorem ifd {c A B : Prop} [Decidable c] (h1 : c → A) (h2 : ¬ c → B) : if decide c = true then A else B := by
  by_cases h : c
  · rw [if_pos (decide_eq_true h)]; exact h1 h
  · rw [if_neg (by simpa using h)]; exact h2 h
theorem nif {c A B : Prop} [Decidable c] (h1 : c → B) (h2 : ¬ c → A) : if (!decide c) = true then A else B := by
  by_cases h : c
  · rw [if_neg (by simpa using h)]; exact h1 h
  · rw [if_pos (by simpa using h)]; exact h2 h
theorem sz_nat (n : Nat) (h : n ≤ 16777216 := by decide) : n ≤ sizeLine := by rw [sizeLine_eq]; exact h
theorem atI0 {α : Type} (x : α) (r : List α) : atI (x :: r) 0 = some x := atI_nat (j := 0) rfl
theorem atI_int {α : Type} {xs : List α} {i : Int} (h0 : 0 ≤ i) (h1 : i < xs.length) : ∃ v, atI xs i = some v ∧ xs[i.toNat]? = some v := by
  obtain ⟨j, rfl⟩ : ∃ j : Nat, i = j := ⟨i.toNat, by omega⟩
  have hj : j < xs.length := by omega
  have e : xs[j]? = some xs[j] := by simp [hj]
  exact ⟨xs[j], atI_nat e, by simpa using e⟩
theorem atI_mem {α : Type} {xs : List α} {i : Int} (h0 : 0 ≤ i) (h1 : i < xs.length) : ∃ v, atI xs i = some v ∧ v ∈ xs := by
  obtain ⟨v, e, e2⟩ := atI_int h0 h1
  exact ⟨v, e, List.mem_of_getElem? e2⟩

/-! ### comprehensions whose turns change nothing -/
section
variable {items : List D} {gd : DTG} {tt : DTT} {te : DTE} {vs : List Nat} {env : En} {w : W} {Q : DK} {fin : List D → W → DK → Prop}
/-- [f x for x in items] -/
theorem lc_map (f : D → D) (hz : items.length ≤ sizeLine) (h : ∀ x, x ∈ items → ∀ R : DK, R (f x) w.mute → gd x (wipeD env vs) w.mute fun env2 w3 => te env2 w3 R) (hf : fin (items.map f) w Q) :
    items.length ≤ sizeLine ∧ ∃ Pv : Nat → List D → W → Prop, Pv 0 [] w ∧
      (∀ i x acc w2, items[i]? = some x → acc.length ≤ i → Pv i acc w2 → gd x (wipeD env vs) w2.mute fun env2 w3 => dYes env2 w3 fun b w4 => if b = true then te env2 w4 fun y w5 => Pv (i + 1) (acc ++ [y]) (w5.as w) else Pv (i + 1) acc (w4.as w)) ∧
      ∀ acc w2, Pv items.length acc w2 → fin acc w2 Q := by
  refine ⟨hz, fun i acc w2 => w2 = w ∧ acc = (items.take i).map f, ⟨rfl, rfl⟩, ?_, ?_⟩
  · rintro i x acc w2 hx _ ⟨rfl, rfl⟩
    refine h x (List.mem_of_getElem? hx) (fun y w5 => w5.as w2 = w2 ∧ (items.take i).map f ++ [y] = (items.take (i + 1)).map f) ⟨rfl, ?_⟩
    rw [List.take_succ, hx]
    simp
  · rintro acc w2 ⟨rfl, rfl⟩
    rw [List.take_length]
    exact hf
/-- [f x for x in items if p x] -/
theorem lc_filter (p : D → Bool) (f : D → D) (hz : items.length ≤ sizeLine)
    (h : ∀ x, x ∈ items → ∀ (R : DK) (S : W → Prop), (p x = true → R (f x) w.mute) → (p x = false → S w.mute) → gd x (wipeD env vs) w.mute fun env2 w3 => tt env2 w3 fun b w4 => if b = true then te env2 w4 R else S w4) (hf : fin ((items.filter p).map f) w Q) :
    items.length ≤ sizeLine ∧ ∃ Pv : Nat → List D → W → Prop, Pv 0 [] w ∧
      (∀ i x acc w2, items[i]? = some x → acc.length ≤ i → Pv i acc w2 → gd x (wipeD env vs) w2.mute fun env2 w3 => tt env2 w3 fun b w4 => if b = true then te env2 w4 fun y w5 => Pv (i + 1) (acc ++ [y]) (w5.as w) else Pv (i + 1) acc (w4.as w)) ∧
      ∀ acc w2, Pv items.length acc w2 → fin acc w2 Q := by
  refine ⟨hz, fun i acc w2 => w2 = w ∧ acc = ((items.take i).filter p).map f, ⟨rfl, rfl⟩, ?_, ?_⟩
  · rintro i x acc w2 hx _ ⟨rfl, rfl⟩
    refine h x (List.mem_of_getElem? hx) (fun y w5 => w5.as w2 = w2 ∧ ((items.take i).filter p).map f ++ [y] = ((items.take (i + 1)).filter p).map f) (fun w4 => w4.as w2 = w2 ∧ ((items.take i).filter p).map f = ((items.take (i + 1)).filter p).map f) (fun e => ⟨rfl, ?_⟩) fun e => ⟨rfl, ?_⟩
    · rw [List.take_succ, hx]
      simp [e]
    · rw [List.take_succ, hx]
      simp [e]
  · rintro acc w2 ⟨rfl, rfl⟩
    rw [List.take_length]
    exact hf
end
theorem all_map (p : D → Bool) (xs : List D) : blsOf (xs.map fun x => .bl (p x)) = some (xs.map p) := by
  induction xs with
  | nil => rfl
  | cons x r ih => simp [blsOf, ih]
end DL

/-! DLm: small words for the readings. -/
/-! DLn: small rules for the joining. -/
namespace DL
open PySem PySem.Spec PyProof.Rows L2
theorem FnAt.of {K : PySem.W.Frag} {h : Heap} {mg : Str → Option Value} {x : Str} {st : Stmt} {ps : List Str} {f : Addr} {oc : Value} {od an : Option Addr} {osl : Array (Option Value)} {kV doc pm cdv ct : Value} (X : K.In h) (G : h.Ns mainGlobals mg)
    (hb : ∀ (kV doc pm : Value) (an : Option Addr) (cdv ct : Value) (us : List Value), us.length = ps.length → bindArgs (PySem.W.fnOf x x (defArgs st) (defBody st) (defScope st) .none kV doc pm an cdv ct) ⟨us, []⟩ = pure (ps.zip us))
    (a : PySem.W.nsIn K mainGlobals x = some (some (.ref f))) (l : K.lookup f = some ⟨oc, od, .func (PySem.W.fnOf x x (defArgs st) (defBody st) (defScope st) .none kV doc pm an cdv ct), osl⟩)
    (c : PySem.W.codeIn K cdv x = true) (k : PySem.W.keepIn K (.ref f) = true) : FnAt K mg x st ps := by
  have F := fun_mk (st := st) l c k
  exact ⟨⟨f, _, F, PySem.W.mg_of X G a, F.binds hb⟩⟩
theorem DCal.imp {P : Program} {w : World} {K : PySem.W.Frag} {mg : Str → Option Value} {base : Heap} {k : Nat} {x : Str} {n : Nat} {sp sp' : DSp} (c : DCal P w K mg base k x n sp) (h : ∀ vs H Q E, liftSp K sp' vs H Q E → liftSp K sp vs H Q E) : DCal P w K mg base k x n sp' :=
  let ⟨f, fd, ps, F, r⟩ := c.ex; ⟨f, fd, ps, F.imp h, r⟩
theorem cut_to {xs : List D} {k : Int} (h : 0 ≤ k) : DL.cutD xs none (some k) = xs.take k.toNat := by
  obtain ⟨j, rfl⟩ : ∃ j : Nat, k = j := ⟨k.toNat, by omega⟩
  unfold DL.cutD
  rw [HT.sIx_nat, HT.sIx_none, List.drop_zero, Int.toNat_natCast, Nat.sub_zero]
  by_cases hj : j ≤ xs.length
  · rw [Nat.min_eq_left hj]
  · rw [Nat.min_eq_right (by omega), List.take_of_length_le (Nat.le_refl _), List.take_of_length_le (by omega)]
theorem cut_from {xs : List D} {k : Int} (h : 0 ≤ k) : DL.cutD xs (some k) none = xs.drop k.toNat := by
  obtain ⟨j, rfl⟩ : ∃ j : Nat, k = j := ⟨k.toNat, by omega⟩
  unfold DL.cutD
  rw [HT.sIx_nat, HT.sIx_none, Int.toNat_natCast]
  by_cases hj : j ≤ xs.length
  · rw [Nat.min_eq_left hj, List.take_of_length_le (by rw [List.length_drop]; omega)]
  · rw [Nat.min_eq_right (by omega), List.drop_of_length_le (Nat.le_refl _), List.drop_of_length_le (by omega)]
    simp
end DL

/-! DLm: small words for the readings. -/
/-! DLo: more operators. -/
namespace DL
open PySem PySem.Spec PyProof.Rows L2
theorem mulOk {a : Str} {n : Int} (h1 : -(2 ^ 63) ≤ n) (h2 : n ≤ 16777216) (h3 : a.length * n.toNat ≤ 16777216) : MulOk a n := by
  refine ⟨?_, fun c1 c2 => ?_, fun c1 c2 => ?_⟩
  · rw [decide_eq_false (by omega), decide_eq_false (by omega)]; rfl
  · have z : (549755813887 : Int) ≤ (2 ^ 63 - 1) / n := by
      rw [Int.le_ediv_iff_mul_le (by omega)]
      omega
    have : a.length ≤ 16777216 := by
      have : 1 ≤ n.toNat := by omega
      exact Nat.le_trans (Nat.le_mul_of_pos_right _ this) h3
    omega
  · have : ¬ a.length * n.toNat > 2 ^ 24 := by omega
    simpa [Builtin.Str.tooLong, sizeLine] using this
theorem op_mulS {X : Cx} : OpR X (binaryOp .Mult) (fun x y H Q => ∃ a n, x = .str a ∧ y = .int n ∧ MulOk a n ∧ Q (.str (Txt.mul a n)) H) := by
  intro pins s σ H x y v u Q I rx ry h
  obtain ⟨a, n, rfl, rfl, hz, q⟩ := h
  obtain ⟨t, rfl⟩ := rx
  obtain ⟨t', rfl⟩ := ry
  exact SB.mul hz fun t k => ⟨.str _, H, I.tok _, ⟨t, rfl⟩, q⟩
theorem od_mulS {X : Cx} : OpD X (binaryOp .Mult) fun x y w Q => match x, y with
    | .str a, .int n => -(2 ^ 63) ≤ n ∧ n ≤ 16777216 ∧ a.length * n.toNat ≤ 16777216 ∧ Q (.str (Txt.mul a n)) w
    | _, _ => False := by
  refine ⟨_, op_mulS, fun c g w H x y v u Q Qv R r1 r2 q k => ?_⟩
  cases r1 with
  | str i => cases r2 with
    | int j => exact ⟨i, j, rfl, rfl, mulOk q.1 q.2.1 q.2.2.1, k _ _ ⟨g, w, _, .rfl, R, .str _, q.2.2.2⟩⟩
    | _ => exact False.elim q
  | _ => exact False.elim q
theorem cst_int {K : PySem.W.Frag} {h : Heap} {mg : Str → Option Value} {n : Str} {i : Int} {u : Tok} (X : K.In h) (G : h.Ns mainGlobals mg) (e : PySem.W.nsIn K mainGlobals n = some (some (.int i u))) : ∃ u, mg n = some (.int i u) := ⟨u, PySem.W.mg_of X G e⟩
theorem cst_str {K : PySem.W.Frag} {h : Heap} {mg : Str → Option Value} {n : Str} {i : Str} {u : Tok} (X : K.In h) (G : h.Ns mainGlobals mg) (e : PySem.W.nsIn K mainGlobals n = some (some (.str i u))) : ∃ u, mg n = some (.str i u) := ⟨u, PySem.W.mg_of X G e⟩
theorem FnAt.ofC {K : PySem.W.Frag} {h : Heap} {mg : Str → Option Value} (x : Str) (st : Stmt) (ps : List Str) {f : Addr} {oc : Value} {od an : Option Addr} {osl : Array (Option Value)} {kV doc pm cdv ct : Value} {R : Prop} (X : K.In h) (G : h.Ns mainGlobals mg)
    (hb : ∀ (kV doc pm : Value) (an : Option Addr) (cdv ct : Value) (us : List Value), us.length = ps.length → bindArgs (PySem.W.fnOf x x (defArgs st) (defBody st) (defScope st) .none kV doc pm an cdv ct) ⟨us, []⟩ = pure (ps.zip us))
    (a : PySem.W.nsIn K mainGlobals x = some (some (.ref f))) (l : K.lookup f = some ⟨oc, od, .func (PySem.W.fnOf x x (defArgs st) (defBody st) (defScope st) .none kV doc pm an cdv ct), osl⟩)
    (c : PySem.W.codeIn K cdv x = true) (k : PySem.W.keepIn K (.ref f) = true) (r : FnAt K mg x st ps → R) : R := r (.of X G hb a l c k)
end DL

/-! DLm: small words for the readings. -/
/-! DLp: data that repr shows; texts of bounded length. -/
namespace DL
open PySem PySem.Spec PyProof.Rows L2
def shows (d : PyData) : Bool := d.showable && decide (d.depth ≤ 60) && decide (d.shown.length ≤ 16777216) && (!d.hasDict || noL d)
theorem ShowOk.of {d : PyData} (h : shows d = true) : ShowOk d := by
  unfold shows at h
  simp only [Bool.and_eq_true, decide_eq_true_eq, Bool.or_eq_true, Bool.not_eq_true'] at h
  obtain ⟨⟨⟨h1, h2⟩, h3⟩, h4⟩ := h
  exact ⟨h1, h2, by rw [sizeLine_eq]; exact h3, fun z => h4.elim (fun e => by rw [e] at z; cases z) id⟩
/-- what repr takes -/
def Shw (d : D) : Prop := ∃ p, toPy d = some p ∧ ShowOk p
def shwB (d : D) : Bool := match toPy d with
  | some p => shows p
  | none => false
theorem Shw.of {d : D} (h : shwB d = true) : Shw d := by
  unfold shwB at h
  split at h
  · rename_i p e
    exact ⟨p, e, .of h⟩
  · cases h
/-- a text of at most n signs -/
structure Okz (n : Nat) (x : Str) : Prop where
  len : x.length ≤ n
  cp : ∀ c ∈ x.cps.toList, c < 16 ^ 8
theorem Okz.mono {n m : Nat} {x : Str} (h : Okz n x) (l : n ≤ m) : Okz m x := ⟨Nat.le_trans h.len l, h.cp⟩
theorem Okz.app {n m : Nat} {x y : Str} (h : Okz n x) (k : Okz m y) : Okz (n + m) (x ++ y) :=
  ⟨by rw [strLen_append]; exact Nat.add_le_add h.len k.len, fun c hc => by
    rw [Str.cps_append, Array.toList_append] at hc
    exact (List.mem_append.mp hc).elim (h.cp c) (k.cp c)⟩
theorem Okz.cut {n : Nat} {x : Str} (h : Okz n x) (lo hi : Option Int) : Okz n (cutS x lo hi) :=
  ⟨Nat.le_trans (cutS_length x lo hi) h.len, fun c hc => h.cp c (by
    unfold L2.cutS at hc
    rw [List.toList_toArray] at hc
    exact List.mem_of_mem_drop (List.mem_of_mem_take hc))⟩
def okz (n : Nat) (x : Str) : Bool := decide (x.length ≤ n) && x.cps.toList.all fun c => decide (c < 16 ^ 8)
theorem Okz.of {n : Nat} {x : Str} (h : okz n x = true) : Okz n x := by
  unfold okz at h
  rw [Bool.and_eq_true] at h
  exact ⟨of_decide_eq_true h.1, fun c hc => of_decide_eq_true (List.all_eq_true.mp h.2 c hc)⟩
theorem Okz.join {n : Nat} (s : Str) : ∀ {ys : List Str}, (∀ y ∈ ys, Okz n y) → Okz (ys.length * (n + s.length)) (Str.join s ys) ∨ ∃ c ∈ s.cps.toList, ¬ c < 16 ^ 8
  | [], _ => .inl ⟨Nat.zero_le _, fun c hc => by cases hc⟩
  | [x], h => .inl ⟨Nat.le_trans (h x (by simp)).len (by simp), (h x (by simp)).cp⟩
  | x :: y :: r, h => by
    by_cases hs : ∀ c ∈ s.cps.toList, c < 16 ^ 8
    · rcases Okz.join s (ys := y :: r) (fun z hz => h z (List.mem_cons_of_mem _ hz)) with k | ⟨c, hc, hn⟩
      · refine .inl ((((h x (by simp)).app (m := s.length) ⟨Nat.le_refl _, hs⟩).app k).mono ?_)
        have : (x :: y :: r).length = (y :: r).length + 1 := rfl
        rw [this, Nat.succ_mul]
        omega
      · exact absurd (hs c hc) hn
    · refine .inr ?_
      apply Classical.byContradiction
      intro hh
      exact hs fun c hc => Classical.byContradiction fun hn => hh ⟨c, hc, hn⟩
theorem Okz.join0 {n : Nat} {ys : List Str} (h : ∀ y ∈ ys, Okz n y) : Okz (ys.length * n) (Str.join ⟨#[]⟩ ys) := by
  rcases Okz.join ⟨#[]⟩ h with k | ⟨c, hc, _⟩
  · exact k
  · cases hc
theorem Okz.repr {n : Nat} {x : Str} (h : Okz n x) : (reprText x).length ≤ 10 * n + 2 := Nat.le_trans (StrLaws.reprText_len x h.cp) (by have := h.len; omega)
theorem Okz.size {n : Nat} {x : Str} (h : Okz n x) (l : n ≤ 1000000) : x.length ≤ sizeLine := Nat.le_trans h.len (sz_nat n (by omega))
theorem Okz.shw {n : Nat} {x : Str} (h : Okz n x) (l : n ≤ 1000000) : Shw (.str x) :=
  ⟨.str x, rfl, rfl, Nat.zero_le _, Nat.le_trans h.repr (sz_nat _ (by omega)), fun z => by cases z⟩
theorem Okz.shwL {n : Nat} {x : Str} (h : Okz n x) (l : n ≤ 1000000) : Shw (.lst [.str x]) :=
  ⟨.list [.str x], rfl, rfl, Nat.le_of_ble_eq_true rfl, by
    have e : (PyData.list [.str x]).shown = ("[" : Str) ++ "" ++ reprText x ++ "]" := rfl
    rw [e, strLen_append, strLen_append, strLen_append]
    have := h.repr
    exact sz_nat _ (by
      have a : ("[" : Str).length = 1 := rfl
      have b : ("]" : Str).length = 1 := rfl
      have c : ("" : Str).length = 0 := rfl
      omega), fun z => by cases z⟩
theorem Okz.shwT {n : Nat} {x : Str} (h : Okz n x) (l : n ≤ 1000000) : Shw (.tup [.str x]) :=
  ⟨.tuple [.str x], rfl, rfl, Nat.le_of_ble_eq_true rfl, by
    have e : (PyData.tuple [.str x]).shown = ("(" : Str) ++ reprText x ++ ",)" := rfl
    rw [e, strLen_append, strLen_append]
    have := h.repr
    exact sz_nat _ (by
      have a : ("(" : Str).length = 1 := rfl
      have b : (",)" : Str).length = 2 := rfl
      omega), fun z => by cases z⟩
theorem Okz.two {n m : Nat} {x y : Str} (h : Okz n x) (k : Okz m y) (l : n + m ≤ 1000000) : x.length + y.length ≤ sizeLine := by
  have := h.len
  have := k.len
  exact sz_nat _ (by omega)
theorem Okz.one {c : Nat} (h : c < 16 ^ 8) : Okz 1 ⟨#[c]⟩ := ⟨Nat.le_refl _, fun d hd => by
  have : d = c := by simpa using hd
  rw [this]; exact h⟩
/-- single signs of a text -/
theorem strs_of_signs {z : List Nat} : ∀ {acc : List D}, (∀ d ∈ acc, ∃ c, c ∈ z ∧ d = .str ⟨#[c]⟩) → ∃ ys : List Str, strsOf acc = some ys ∧ ys.length = acc.length ∧ (ys.map (·.length)).sum = acc.length ∧ ∀ y ∈ ys, ∃ c, c ∈ z ∧ y = ⟨#[c]⟩
  | [], _ => ⟨[], rfl, rfl, rfl, fun y hy => by cases hy⟩
  | d :: r, h => by
    obtain ⟨ys, e, l, q, k⟩ := strs_of_signs (acc := r) fun d hd => h d (List.mem_cons_of_mem _ hd)
    obtain ⟨c, hc, rfl⟩ := h d (List.mem_cons_self ..)
    refine ⟨⟨#[c]⟩ :: ys, by simp only [strsOf, e]; rfl, by simp [l], ?_, fun y hy => ?_⟩
    · rw [List.map_cons, List.sum_cons, q, List.length_cons]
      show 1 + r.length = _
      omega
    · rcases List.mem_cons.mp hy with rfl | hy
      · exact ⟨c, hc, rfl⟩
      · exact k y hy
theorem mem_placed {x : Str} {f : Nat → Nat → List Nat} {d : Nat} (h : d ∈ (placed x f).toList) : ∃ i c, c ∈ x.cps.toList ∧ d ∈ f i c := by
  unfold placed at h
  rw [Array.mem_toList_iff, Array.mem_flatten] at h
  obtain ⟨a, h1, h2⟩ := h
  rw [Array.mem_mapIdx] at h1
  obtain ⟨i, hi, e⟩ := h1
  subst e
  exact ⟨i, _, by rw [Array.mem_toList_iff]; exact Array.getElem_mem hi, by simpa using h2⟩
theorem Okz.upper {n : Nat} {x : Str} (h : Okz n x) (k : ∀ c ∈ x.cps.toList, ∀ d ∈ Unicode.upperOf c, d < 16 ^ 8) : Okz (3 * n) (Txt.upper x) :=
  ⟨Nat.le_trans (PyProof.Rows.len_upper x) (Nat.mul_le_mul_left _ h.len), fun d hd => by
    obtain ⟨i, c, hc, hd⟩ := mem_placed hd
    exact k c hc d hd⟩
end DL

/-! DLm: small words for the readings. -/
/-! DLq: comprehensions that draw. -/
namespace DL
open PySem PySem.Spec PyProof.Rows L2
theorem all_true {α : Type} (xs : List α) : (xs.map fun _ => true).all id = true := by
  induction xs with
  | nil => rfl
  | cons x r ih => simp [ih]
theorem all_then {xs : List D} {Q : DK} {w : W} (q : Q (.bl true) w) : allR [.lst (xs.map fun _ => .bl true)] w Q := ⟨⟨_, all_map _ _, by rw [all_true]; exact q⟩⟩
theorem all_bl {xs : List D} (p : D → Bool) {Q : DK} {w : W} (q : Q (.bl ((xs.map p).all id)) w) : allR [.lst (xs.map fun x => .bl (p x))] w Q := ⟨⟨_, all_map _ _, q⟩⟩
theorem all_of {xs : List D} {bs : List Bool} {Q : DK} {w : W} (h : blsOf xs = some bs) (q : Q (.bl (bs.all id)) w) : allR [.lst xs] w Q := ⟨⟨_, h, q⟩⟩
theorem any_of {xs : List D} {bs : List Bool} {Q : DK} {w : W} (h : blsOf xs = some bs) (q : Q (.bl (bs.any id)) w) : anyR [.lst xs] w Q := ⟨⟨_, h, q⟩⟩
theorem tick_eq {w1 w : W} {k : Nat} (hn : w1.n = w.n + k) (hm : w1.m = w.m := by rfl) (he : w1.e = w.e := by rfl) : w1 = w.tick k := by
  cases w1; cases w; cases hm; cases he; cases hn; rfl
section
variable {items : List D} {gd : DTG} {tt : DTT} {te : DTE} {vs : List Nat} {env : En} {w : W} {Q : DK} {fin : List D → W → DK → Prop}
theorem lc_pen (t : Nat) (Pd : D → Prop) (hz : items.length ≤ sizeLine)
    (h : ∀ x, x ∈ items → ∀ j, j ≤ items.length * t → ∀ R : DK, (∀ d j', Pd d → j' ≤ t → R d (w.tick (j + j')).mute) → gd x (wipeD env vs) (w.tick j).mute fun env2 w3 => te env2 w3 R)
    (hf : ∀ acc j, acc.length = items.length → (∀ d ∈ acc, Pd d) → j ≤ items.length * t → fin acc (w.tick j) Q) :
    items.length ≤ sizeLine ∧ ∃ Pv : Nat → List D → W → Prop, Pv 0 [] w ∧
      (∀ i x acc w2, items[i]? = some x → acc.length ≤ i → Pv i acc w2 → gd x (wipeD env vs) w2.mute fun env2 w3 => dYes env2 w3 fun b w4 => if b = true then te env2 w4 fun y w5 => Pv (i + 1) (acc ++ [y]) (w5.as w) else Pv (i + 1) acc (w4.as w)) ∧
      ∀ acc w2, Pv items.length acc w2 → fin acc w2 Q := by
  refine ⟨hz, fun i acc w2 => ∃ j, j ≤ i * t ∧ w2 = w.tick j ∧ acc.length = i ∧ ∀ d ∈ acc, Pd d, ⟨0, Nat.zero_le _, rfl, rfl, fun d hd => by cases hd⟩, ?_, ?_⟩
  · rintro i x acc w2 hx _ ⟨j, hj, rfl, hl, hp⟩
    have hi : i < items.length := by
      rcases Nat.lt_or_ge i items.length with h | h
      · exact h
      · rw [List.getElem?_eq_none h] at hx; cases hx
    have hj2 : j ≤ items.length * t := Nat.le_trans hj (Nat.mul_le_mul_right _ (Nat.le_of_lt hi))
    refine h x (List.mem_of_getElem? hx) j hj2 (fun y w5 => ∃ j, j ≤ (i + 1) * t ∧ w5.as w = w.tick j ∧ (acc ++ [y]).length = i + 1 ∧ ∀ d ∈ acc ++ [y], Pd d) fun d j' hd hj' => ?_
    refine ⟨j + j', by rw [Nat.succ_mul]; omega, rfl, by simp [hl], fun z hz => ?_⟩
    rcases List.mem_append.mp hz with hz | hz
    · exact hp z hz
    · rw [List.mem_singleton] at hz; subst hz; exact hd
  · rintro acc w2 ⟨j, hj, rfl, hl, hp⟩
    exact hf acc j hl hp hj
end
end DL

/-! DLm: small words for the readings. -/
/-! DLr: dicts walked. -/
namespace DL
open PySem PySem.Spec PyProof.Rows L2
def dkeys (kvs : List (Key × D)) : List D := kvs.map fun kv => kD kv.1
def dvals (kvs : List (Key × D)) : List D := kvs.map fun kv => kv.2
def ditems (kvs : List (Key × D)) : List D := kvs.map fun kv => .tup [kD kv.1, kv.2]
section
variable {K : PySem.W.Frag} {g : Gh} {L : Addr → Option Obj} {a : Addr} {o : Obj}
theorem RepK.get : ∀ {xs : List (Key × V)} {ds : List (Key × D)} {i : Nat} {k : Key} {d : D}, RepK K g xs ds → ds[i]? = some (k, d) → ∃ v, xs[i]? = some (k, v) ∧ Rep K g v d
  | _, _, i, k, d, .nil, h => by cases h
  | _, _, 0, k, d, .cons a r, h => by cases h; exact ⟨_, rfl, a⟩
  | _, _, i + 1, k, d, .cons a r, h => RepK.get (i := i) r h
theorem Rep.ofKey (k : Key) : Rep K g (kV k) (kD k) := by
  cases k with
  | inl i => exact .int i
  | inr x => exact .str x
theorem Rel.frzH {c : Ck} {w : W} {H : Hp} {xs : List (Key × V)} (R : Rel K c g w H) (hL : c.L a = some o) (hG : g.G a = some (.dK xs)) : H a = some (.frz o (.dK xs)) := by
  rcases R.imm a _ hG with ⟨h, _⟩ | ⟨o', h, e⟩
  · rw [hL] at h; cases h
  · rw [hL] at h; cases h; exact e
theorem isIt_keys {xs : List (Key × V)} {ds : List (Key × D)} (hL : L a = some o) (hG : g.G a = some (.dK xs)) (r : RepK K g xs ds) : IsIt K L g (dkeys ds) (Itk a o xs) where
  go := fun c i w H g' e l R hi => ⟨R.frzH (by rw [e]; exact hL) (l.G _ _ hG), by rw [r.length]; simpa [dkeys] using hi⟩
  yld := fun c i w H g' x H' d e l R hd ⟨e1, k, v, e2, e3⟩ => by
    subst e1; subst e3
    refine ⟨g', .rfl, R, ?_, fun _ _ z => z⟩
    unfold dkeys at hd
    rw [List.getElem?_map] at hd
    cases q : ds[i]? with
    | none => rw [q] at hd; cases hd
    | some kv =>
      rw [q] at hd; cases hd
      obtain ⟨u, h1, h2⟩ := r.get (k := kv.1) (d := kv.2) q
      rw [e2] at h1; cases h1
      exact .ofKey kv.1
  stop := fun c w H g' e l R => ⟨R.frzH (by rw [e]; exact hL) (l.G _ _ hG), by rw [r.length]; simp [dkeys]⟩
theorem isIt_vals {xs : List (Key × V)} {ds : List (Key × D)} (hL : L a = some o) (hG : g.G a = some (.dK xs)) (r : RepK K g xs ds) : IsIt K L g (dvals ds) (Itd a o xs) where
  go := fun c i w H g' e l R hi => ⟨R.frzH (by rw [e]; exact hL) (l.G _ _ hG), by rw [r.length]; simpa [dvals] using hi⟩
  yld := fun c i w H g' x H' d e l R hd ⟨e1, k, e2⟩ => by
    subst e1
    refine ⟨g', .rfl, R, ?_, fun _ _ z => z⟩
    unfold dvals at hd
    rw [List.getElem?_map] at hd
    cases q : ds[i]? with
    | none => rw [q] at hd; cases hd
    | some kv =>
      rw [q] at hd; cases hd
      obtain ⟨u, h1, h2⟩ := r.get (k := kv.1) (d := kv.2) q
      rw [e2] at h1; cases h1
      exact h2.le l
  stop := fun c w H g' e l R => ⟨R.frzH (by rw [e]; exact hL) (l.G _ _ hG), by rw [r.length]; simp [dvals]⟩
theorem isIt_items {xs : List (Key × V)} {ds : List (Key × D)} (hL : L a = some o) (hG : g.G a = some (.dK xs)) (r : RepK K g xs ds) : IsIt K L g (ditems ds) (Iti a o xs) where
  go := fun c i w H g' e l R hi => ⟨R.frzH (by rw [e]; exact hL) (l.G _ _ hG), by rw [r.length]; simpa [ditems] using hi⟩
  yld := fun c i w H g' x H' d e l R hd ⟨T, k, v, e1, e2, e3, e4⟩ => by
    subst e2; subst e4
    unfold ditems at hd
    rw [List.getElem?_map] at hd
    cases q : ds[i]? with
    | none => rw [q] at hd; cases hd
    | some kv =>
      rw [q] at hd; cases hd
      obtain ⟨u, h1, h2⟩ := r.get (k := kv.1) (d := kv.2) q
      rw [e1] at h1; cases h1
      have l2 := Gh.add_le (o := .tup [kV kv.1, v]) (R.noG e3)
      refine ⟨_, l2, R.alloc e3, .tup (.inl (.inl Gh.add_at)) (.cons (.ofKey kv.1) (.cons ((h2.le l).le l2) .nil)), fun b o' z => ?_⟩
      rw [upd_ne (ne_of_none z e3)]
      exact z
  stop := fun c w H g' e l R => ⟨R.frzH (by rw [e]; exact hL) (l.G _ _ hG), by rw [r.length]; simp [ditems]⟩
end
def dItK (t : DTE) : DTI := fun env w Q => t env w fun x w1 => match x with
  | .dic kvs => Q (dkeys kvs) w1
  | _ => False
def dItV (t : DTE) : DTI := fun env w Q => t env w fun x w1 => match x with
  | .dic kvs => Q (dvals kvs) w1
  | _ => False
def dItI (t : DTE) : DTI := fun env w Q => t env w fun x w1 => match x with
  | .dic kvs => Q (ditems kvs) w1
  | _ => False
section
variable {X : Cx} {Wv : WX} {tg e : Expr} {t : DTE} {apos cpos : Pos}
theorem di_keys (h : DE X Wv e t) : DI X Wv tg e (dItK t) :=
  ⟨PI_imp (pi_keys (pe_lk h.pe)) fun σ H Rv ⟨c, g, env, w, Q, B, q, k⟩ => bindE B q fun v H1 g1 w1 x l1 B1 r1 q1 => by
    cases r1 with
    | @dic a xs ds s r =>
      rcases B1.R.imm a _ s with ⟨hL, hH⟩ | ⟨o, hL, hH⟩
      · exact .inr ⟨a, _, hH, trivial, fun od nf => ⟨a, od, rfl, .inl ⟨xs, upd_same, k _ w1 _ g1 _ _ l1 (.inr ⟨a, od, xs, hL, s, rfl, nf⟩) (B1.R.lock s) (isIt_keys updL_same s r) q1⟩⟩⟩
      · exact .inl ⟨a, o, rfl, .inl ⟨xs, hH, k _ w1 _ g1 _ _ l1 (.inl rfl) B1.R (isIt_keys hL s r) q1⟩⟩
    | _ => exact False.elim q1⟩
theorem di_keysM (h : DE X Wv e t) (hbase : attributeBase e "keys" X.env (eval e X.env) = eval e X.env := by rfl) (hline : (apos.endLine == cpos.line) = true := by rfl) : DI X Wv tg (.Call (.Attribute e "keys" apos) [] [] cpos) (dItK t) :=
  ⟨PI_imp (pi_keysM (pe_lk h.pe) hbase hline) fun σ H Rv ⟨c, g, env, w, Q, B, q, k⟩ => bindE B q fun v H1 g1 w1 x l1 B1 r1 q1 => by
    cases r1 with
    | @dic a xs ds s r =>
      rcases B1.R.imm a _ s with ⟨hL, hH⟩ | ⟨o, hL, hH⟩
      · exact .inr ⟨a, _, hH, trivial, fun od nf => ⟨a, od, xs, rfl, upd_same, k _ w1 _ g1 _ _ l1 (.inr ⟨a, od, xs, hL, s, rfl, nf⟩) (B1.R.lock s) (isIt_keys updL_same s r) q1⟩⟩
      · exact .inl ⟨a, o, xs, rfl, hH, k _ w1 _ g1 _ _ l1 (.inl rfl) B1.R (isIt_keys hL s r) q1⟩
    | _ => exact False.elim q1⟩
theorem di_values (h : DE X Wv e t) (hbase : attributeBase e "values" X.env (eval e X.env) = eval e X.env := by rfl) (hline : (apos.endLine == cpos.line) = true := by rfl) : DI X Wv tg (.Call (.Attribute e "values" apos) [] [] cpos) (dItV t) :=
  ⟨PI_imp (pi_values (pe_lk h.pe) hbase hline) fun σ H Rv ⟨c, g, env, w, Q, B, q, k⟩ => bindE B q fun v H1 g1 w1 x l1 B1 r1 q1 => by
    cases r1 with
    | @dic a xs ds s r =>
      rcases B1.R.imm a _ s with ⟨hL, hH⟩ | ⟨o, hL, hH⟩
      · exact .inr ⟨a, _, hH, trivial, fun od nf => ⟨a, od, xs, rfl, upd_same, k _ w1 _ g1 _ _ l1 (.inr ⟨a, od, xs, hL, s, rfl, nf⟩) (B1.R.lock s) (isIt_vals updL_same s r) q1⟩⟩
      · exact .inl ⟨a, o, xs, rfl, hH, k _ w1 _ g1 _ _ l1 (.inl rfl) B1.R (isIt_vals hL s r) q1⟩
    | _ => exact False.elim q1⟩
theorem di_items {elts : List Expr} {kk : Nat} {tpos : Pos} (h : DE X Wv e t) (hbase : attributeBase e "items" X.env (eval e X.env) = eval e X.env := by rfl) (hline : (apos.endLine == cpos.line) = true := by rfl) : DI X Wv (.Tuple elts kk tpos) (.Call (.Attribute e "items" apos) [] [] cpos) (dItI t) :=
  ⟨PI_imp (pi_items (pe_lk h.pe) hbase hline) fun σ H Rv ⟨c, g, env, w, Q, B, q, k⟩ => bindE B q fun v H1 g1 w1 x l1 B1 r1 q1 => by
    cases r1 with
    | @dic a xs ds s r =>
      rcases B1.R.imm a _ s with ⟨hL, hH⟩ | ⟨o, hL, hH⟩
      · exact .inr ⟨a, _, hH, trivial, fun od nf => ⟨a, od, xs, rfl, upd_same, k _ w1 _ g1 _ _ l1 (.inr ⟨a, od, xs, hL, s, rfl, nf⟩) (B1.R.lock s) (isIt_items updL_same s r) q1⟩⟩
      · exact .inl ⟨a, o, xs, rfl, hH, k _ w1 _ g1 _ _ l1 (.inl rfl) B1.R (isIt_items hL s r) q1⟩
    | _ => exact False.elim q1⟩
end
end DL

/-! DLm: small words for the readings. -/
/-! DLs: own classes: fields, methods, making. -/
namespace DL
open PySem PySem.Spec PyProof.Rows L2
def clsB : Stmt → List Stmt
  | .ClassDef (body := b) .. => b
  | _ => []
theorem RepF.lk {K : PySem.W.Frag} {g : Gh} {f : Str} : ∀ {xs : List (Str × V)} {ds : List (Str × D)}, RepF K g xs ds → (xs.lookup f = none ∧ ds.lookup f = none) ∨ ∃ v d, xs.lookup f = some v ∧ ds.lookup f = some d ∧ Rep K g v d
  | _, _, .nil => .inl ⟨rfl, rfl⟩
  | _, _, @RepF.cons _ _ k v vs d ds a r => by
    by_cases e : (f == k) = true
    · exact .inr ⟨v, d, by simp [List.lookup, e], by simp [List.lookup, e], a⟩
    · have e : (f == k) = false := by simpa using e
      have := RepF.lk (f := f) r
      simpa [List.lookup, e] using this
theorem RepF.get {K : PySem.W.Frag} {g : Gh} {f : Str} {xs : List (Str × V)} {ds : List (Str × D)} {d : D} (r : RepF K g xs ds) (h : ds.lookup f = some d) : ∃ v, xs.lookup f = some v ∧ Rep K g v d := by
  rcases r.lk (f := f) with ⟨_, e⟩ | ⟨v, d', e1, e2, a⟩
  · rw [e] at h; cases h
  · rw [e2] at h; cases h; exact ⟨v, e1, a⟩
theorem RepF.no {K : PySem.W.Frag} {g : Gh} {f : Str} {xs : List (Str × V)} {ds : List (Str × D)} (r : RepF K g xs ds) (h : ds.lookup f = none) : xs.lookup f = none := by
  rcases r.lk (f := f) with ⟨e, _⟩ | ⟨v, d', e1, e2, a⟩
  · exact e
  · rw [e2] at h; cases h
def putFD (f : Str) (d : D) : List (Str × D) → List (Str × D)
  | [] => [(f, d)]
  | (g, x) :: r => if g = f then (g, d) :: r else (g, x) :: putFD f d r
theorem RepF.put {K : PySem.W.Frag} {g : Gh} {f : Str} {v : V} {d : D} (a : Rep K g v d) : ∀ {xs : List (Str × V)} {ds : List (Str × D)}, RepF K g xs ds → RepF K g (putF f v xs) (putFD f d ds)
  | _, _, .nil => .cons a .nil
  | _, _, @RepF.cons _ _ k v' vs d' ds b r => by
    unfold putF putFD
    by_cases e : k = f
    · rw [if_pos e, if_pos e]; exact .cons a r
    · rw [if_neg e, if_neg e]; exact .cons b (RepF.put a r)
/-- a class and a name that no class of it has -/
structure Fld (K : PySem.W.Frag) (n f : Str) : Prop where
  ex : ∃ C, ClsAt K n C ∧ Cls K C ∧ NoAttr K C f
theorem Rel.mins {K : PySem.W.Frag} {c : Ck} {g : Gh} {w : W} {H : Hp} (R : Rel K c g w H) {p dx : Addr} {n : Str} {ds : List (Str × D)} (h : w.m p = some (.ins n dx ds)) : ∃ C xs, ClsAt K n C ∧ H p = some (.ins C dx xs) ∧ RepF K g xs ds := by
  obtain ⟨_, _, _, o, e, r⟩ := R.mu p _ h
  cases r with
  | ins k r => exact ⟨_, _, k, e, r⟩
/-- an object of no interest -/
theorem Rel.other {K : PySem.W.Frag} {c : Ck} {g : Gh} {w : W} {H : Hp} (R : Rel K c g w H) {p : Addr} {o : HO} (h : H p = none) : Rel K c g w (upd H p o) := by
  refine ⟨fun a u e => ?_, R.lck, fun a m e => ?_, fun a q e => ?_, fun a e => ?_, R.ex⟩
  · rw [upd_ne (ne_of_none e (R.noG h))]; exact R.imm a u e
  · obtain ⟨h1, h2, h3, o', h4, h5⟩ := R.mu a m e
    exact ⟨h1, h2, h3, o', by rw [upd_ne (ne_of_none h4 h)]; exact h4, h5⟩
  · obtain ⟨h1, h2, h3⟩ := R.frm a q e
    exact ⟨by rw [upd_ne (ne_of_none h1 h)]; exact h1, h2, h3⟩
  · obtain ⟨h1, xs, h2, h3⟩ := R.pen a e
    exact ⟨h1, xs, by rw [upd_ne (ne_of_none h2 h)]; exact h2, h3⟩

/-! ### fields -/
def dFld (n f : Str) (t : DTE) : DTE := fun env w Q => t env w fun x w1 => match x with
  | .obj m fs => m = n ∧ ∃ d, fs.lookup f = some d ∧ Q d w1
  | .ref p => ∃ dx fs d, w1.m p = some (.ins n dx fs) ∧ fs.lookup f = some d ∧ Q d w1
  | _ => False
theorem de_fld {X : Cx} {Wv : WX} {e : Expr} {n f : Str} {t : DTE} {pos : Pos} (F : Fld X.K n f) (he : DE X Wv e t) (hb : attributeBase e f X.env (eval e X.env) = eval e X.env := by rfl) : DE X Wv (.Attribute e f pos) (dFld n f t) :=
  ⟨PE_imp (pe_fld he.pe hb) fun σ H Qv ⟨c, g, env, w, Q, B, q, k⟩ => bindE B q fun v H1 g1 w1 x l1 B1 r1 q1 => by
    obtain ⟨C, hC, hc, hn⟩ := F.ex
    cases r1 with
    | obj kC s r =>
      obtain ⟨rfl, d, e, q2⟩ := q1
      cases hC.eq kC
      obtain ⟨u, e1, ru⟩ := r.get e
      exact ⟨_, _, _, _, u, rfl, B1.R.ins s, hc, hn, e1, k _ _ ⟨g1, w1, d, l1, B1.R, ru, q2⟩⟩
    | ref p =>
      obtain ⟨dx, fs, d, e, e2, q2⟩ := q1
      obtain ⟨C', xs, kC, e3, r⟩ := B1.R.mins e
      cases hC.eq kC
      obtain ⟨u, e1, ru⟩ := r.get e2
      exact ⟨_, _, _, _, u, rfl, e3, hc, hn, e1, k _ _ ⟨g1, w1, d, l1, B1.R, ru, q2⟩⟩
    | _ => exact False.elim q1⟩
/-- o.f = value -/
def dFldS (n f : Str) (to tv : DTE) : DTS := fun D env w => tv env w fun y w1 => to env w1 fun x w2 => match x with
  | .ref p => ∃ dx fs, w2.m p = some (.ins n dx fs) ∧ fs.length < 1000 ∧ D.nx env (w2.put p (.ins n dx (putFD f y fs)))
  | _ => False
theorem ds_fld {X : Cx} {Wv : WX} {o value : Expr} {n f : Str} {to tv : DTE} {pos pos' : Pos} (F : Fld X.K n f) (ho : DE X Wv o to) (hv : DE X Wv value tv) (hs : swapsWith value (some (.Attribute o f pos')) pos.line X.env = pure false := by rfl) : DS X Wv (.Assign [.Attribute o f pos'] value pos) (dFldS n f to tv) :=
  ⟨PS_imp (ps_fld ho.pe hv.pe hs) fun Dv σ H ⟨c, g, env, w, D, B, q, k⟩ => bindE B q fun y H1 g1 w1 d l1 B1 r1 q1 => bindE B1 q1 fun x H2 g2 w2 e l2 B2 r2 q2 => by
    obtain ⟨C, hC, hc, hn⟩ := F.ex
    cases r2 with
    | ref p =>
      obtain ⟨dx, fs, em, hl, q3⟩ := q2
      obtain ⟨C', xs, kC, e3, r⟩ := B2.R.mins em
      cases hC.eq kC
      refine ⟨p, _, dx, xs, rfl, e3, hc, hn, by rw [r.length]; exact hl, k.nx _ _ _ _ g2 (l1.trans l2) ⟨B2.R.write em (.ins hC (RepF.put (r1.le l2) r)), B2.E, B2.X⟩ q3⟩
    | _ => exact False.elim q2⟩

/-! ### methods -/
structure DMet (P : Program) (w : World) (K : PySem.W.Frag) (mg : Str → Option Value) (base : Heap) (k : Nat) (n m : Str) (ar : Nat) (sp : DSp) : Prop where
  ex : ∃ (C f : Addr) (fd : FuncData) (ps : List Str), ClsAt K n C ∧ Cls K C ∧ Meth K C m f ∧ FnG P w K mg base k f fd ps (liftSp K sp) ∧ Binds K fd ps [] ∧ ps.length = ar
theorem DMet.mono {P : Program} {w : World} {K : PySem.W.Frag} {mg : Str → Option Value} {base : Heap} {j k : Nat} {n m : Str} {ar : Nat} {sp : DSp} (c : DMet P w K mg base j n m ar sp) (h : j ≤ k) : DMet P w K mg base k n m ar sp :=
  let ⟨C, f, fd, ps, a, b, d, F, r⟩ := c.ex; ⟨C, f, fd, ps, a, b, d, F.mono h, r⟩
def dMethB (n m : Str) (sp : DSp) (x : D) (t : DTA) : DTE := fun env w1 Q => match x with
  | .obj n' fs => n' = n ∧ fs.lookup m = none ∧ t env w1 fun xs w2 => sp (.obj n' fs :: xs) (w2.inn env) fun d w3 => Q d (w3.as w2)
  | .ref p => ∃ dx fs, w1.m p = some (.ins n dx fs) ∧ fs.lookup m = none ∧ t env w1 fun xs w2 => sp (.ref p :: xs) (w2.inn env) fun d w3 => Q d (w3.as w2)
  | _ => False
def dMeth (n m : Str) (sp : DSp) (to : DTE) (t : DTA) : DTE := fun env w Q => to env w fun x w1 => dMethB n m sp x t env w1 Q
def tMethG (C : Addr) (m : Str) (sp : Sp) (Wv : WX) (ta : TE) (t : TA) : TE := fun σ H Q => ta σ H fun x H1 => ∃ a dx fs, x = .ref a ∧ H1 a = some (.ins C dx fs) ∧ fs.lookup m = none ∧ t σ H1 fun vs H2 => sp (x :: vs) H2 Q (WE Wv σ)
section
variable {X : Cx} {Wv : WX} {k ar : Nat} {f C : Addr} {fd : FuncData} {ps : List Str} {sp : Sp} {dsp : DSp} {m n x : Str} {p pos apos : Pos} {e o : Expr} {es : List Expr} {ta : TE} {t : TA} {to : DTE} {dt : DTA}
theorem pe_methG {pl : Sem Bool} (he : PE X o ta) (c : Cls X.K C) (hm : Meth X.K C m f) (F : FnG X.prog X.w X.K X.mg X.base k f fd ps sp) (hr : Room k X.A) (hgd : X.A.guards = some []) (hb : Binds X.K fd ps []) (tk : Takes X Wv) (ha : PA X (e :: es) t)
    (hst : starEach (e :: es) X.env = (false, eval e X.env) :: starEach es X.env) (hpl : (backTo pos (starEach es X.env)).any (·.1) = false)
    (ht : eval (.Call (.Attribute o m apos) (e :: es) [] pos) X.env = (do
      let ov ← eval o X.env
      standAt apos.atName
      let (f, first) ← holding [ov] (getMethod ov m pl)
      callWith pos f first (backTo pos (starEach (e :: es) X.env)) (backToKw pos (keywordEach [] X.env)))) :
    PE X (.Call (.Attribute o m apos) (e :: es) [] pos) (tMethG C m sp Wv ta t) := by
  refine ⟨fun pins s σ H Q I h => ?_⟩
  refine PySem.W.methodCall_KW (pl := pl) (thn (he.run pins s σ H _ I h) fun u s1 ⟨x, H1, I1, rx, a, dx, fs, ex, ea, l, q⟩ => ?_) ht
  subst ex
  obtain rfl : u = Value.ref a := rx
  refine getmeth_ok I1 ea c hm l ?_
  refine PySem.W.callWith_K (first := [.ref a]) (h₀ := X.base) I.ok.mod.kin hm.kp (thn (ha.run pos pins s1 σ H1 _ I1 q) fun us s2 ⟨vs, H2, I2, r, q2⟩ => ⟨I2.kIn, ?_⟩) hst hpl
  exact runG (us := .ref a :: us) (vs := .ref a :: vs) F hr hgd hb tk I2 (.cons rfl r) q2
theorem pe_methG0 {pl : Sem Bool} (he : PE X o ta) (c : Cls X.K C) (hm : Meth X.K C m f) (F : FnG X.prog X.w X.K X.mg X.base k f fd ps sp) (hr : Room k X.A) (hgd : X.A.guards = some []) (hb : Binds X.K fd ps []) (tk : Takes X Wv)
    (ht : eval (.Call (.Attribute o m apos) [] [] pos) X.env = (do
      let ov ← eval o X.env
      standAt apos.atName
      let (f, first) ← holding [ov] (getMethod ov m pl)
      callWith pos f first (backTo pos (starEach [] X.env)) (backToKw pos (keywordEach [] X.env)))) :
    PE X (.Call (.Attribute o m apos) [] [] pos) (tMethG C m sp Wv ta tNil) := by
  refine ⟨fun pins s σ H Q I h => ?_⟩
  refine PySem.W.methodCall_KW (pl := pl) (thn (he.run pins s σ H _ I h) fun u s1 ⟨x, H1, I1, rx, a, dx, fs, ex, ea, l, q⟩ => ?_) ht
  subst ex
  obtain rfl : u = Value.ref a := rx
  refine getmeth_ok I1 ea c hm l ?_
  exact PySem.W.callWith_K0 (first := [.ref a]) I1.kIn hm.kp (runG (us := [.ref a]) (vs := [.ref a]) F hr hgd hb tk I1 (.cons rfl .nil) q)
/-- what a callee is handed, from within -/
theorem sp_lift {c : Ck} {g g1 : Gh} {env : En} {w1 : W} {σ : St} {H1 : Hp} {Q : DK} {Qv : VK} {vs : List V} {xs : List D} (B1 : Bx X.K Wv c g1 env w1 σ H1) (l1 : g.le g1) (kk : ∀ v H', PQ X.K c g Q v H' → Qv v H') (r1 : RepL X.K g1 vs xs)
    (q1 : dsp xs (w1.inn env) fun d w2 => Q d (w2.as w1)) : liftSp X.K dsp vs H1 Qv (WE Wv σ) := by
  refine ⟨{ c with e := fun _ => c.e env }, g1, w1.inn env, xs, _, B1.R.inn env, r1, q1, fun v H' ⟨g2, w2, d, l2, R2, r2, q2⟩ => ?_, fun _ => rfl, fun cls d H' g' l' px => ?_⟩
  · exact kk v H' ⟨g2, w2.as w1, d, l1.trans l2, R2.out rfl rfl B1.R.ex, r2, q2⟩
  · refine B1.X env σ H' cls d g' l' (B1.E.le l') ?_
    obtain ⟨g3, w3, C, fs, e1, l3, R3, e3, m3⟩ := px
    exact ⟨g3, w3.as w1, C, fs, e1, l3, R3.out rfl rfl B1.R.ex, e3, m3⟩
theorem meth_lift {σ : St} {H : Hp} {Qv : VK} (hC : ClsAt X.K n C) (h : liftE X.K Wv (dMeth n m dsp to dt) σ H Qv) : tMethG C m (liftSp X.K dsp) Wv (liftE X.K Wv to) (liftA X.K Wv dt) σ H Qv := by
  obtain ⟨c, g, env, w, Q, B, q, kk⟩ := h
  refine bindE B q fun v H1 g1 w1 d l1 B1 r1 q1 => ?_
  unfold dMethB at q1
  cases r1 with
  | obj kC s r =>
    obtain ⟨rfl, e, q2⟩ := q1
    cases hC.eq kC
    refine ⟨_, _, _, rfl, B1.R.ins s, r.no e, bindA B1 q2 fun vs H2 g2 w2 xs l2 B2 r2 q3 => ?_⟩
    exact sp_lift B2 (l1.trans l2) kk (.cons (.obj kC (l2.G _ _ s) (r.le l2)) r2) q3
  | ref p =>
    obtain ⟨dx, fs, em, e, q2⟩ := q1
    obtain ⟨C', xs, kC, e3, r⟩ := B1.R.mins em
    cases hC.eq kC
    refine ⟨_, _, _, rfl, e3, r.no e, bindA B1 q2 fun vs H2 g2 w2 xs l2 B2 r2 q3 => ?_⟩
    exact sp_lift B2 (l1.trans l2) kk (.cons (.ref p) r2) q3
  | _ => exact False.elim q1
theorem de_meth {pl : Sem Bool} (F : DMet X.prog X.w X.K X.mg X.base k n m ar dsp) (hr : Room k X.A) (hgd : X.A.guards = some []) (tk : Takes X Wv) (ho : DE X Wv o to) (ha : DA X Wv (e :: es) dt)
    (hst : starEach (e :: es) X.env = (false, eval e X.env) :: starEach es X.env := by rfl) (hpl : (backTo pos (starEach es X.env)).any (·.1) = false := by rfl)
    (ht : eval (.Call (.Attribute o m apos) (e :: es) [] pos) X.env = (do
      let ov ← eval o X.env
      standAt apos.atName
      let (f, first) ← holding [ov] (getMethod ov m pl)
      callWith pos f first (backTo pos (starEach (e :: es) X.env)) (backToKw pos (keywordEach [] X.env))) := by rfl) :
    DE X Wv (.Call (.Attribute o m apos) (e :: es) [] pos) (dMeth n m dsp to dt) := by
  obtain ⟨C, f, fd, ps, hC, hc, hm, FF, hb, _⟩ := F.ex
  exact ⟨PE_imp (pe_methG ho.pe hc hm FF hr hgd hb tk ha.pa hst hpl ht) fun σ H Qv h => meth_lift hC h⟩
theorem de_meth0 {pl : Sem Bool} (F : DMet X.prog X.w X.K X.mg X.base k n m ar dsp) (hr : Room k X.A) (hgd : X.A.guards = some []) (tk : Takes X Wv) (ho : DE X Wv o to)
    (ht : eval (.Call (.Attribute o m apos) [] [] pos) X.env = (do
      let ov ← eval o X.env
      standAt apos.atName
      let (f, first) ← holding [ov] (getMethod ov m pl)
      callWith pos f first (backTo pos (starEach [] X.env)) (backToKw pos (keywordEach [] X.env))) := by rfl) :
    DE X Wv (.Call (.Attribute o m apos) [] [] pos) (dMeth n m dsp to dNil) := by
  obtain ⟨C, f, fd, ps, hC, hc, hm, FF, hb, _⟩ := F.ex
  refine ⟨PE_imp (pe_methG0 ho.pe hc hm FF hr hgd hb tk ht) fun σ H Qv h => ?_⟩
  obtain ⟨a, b, c, d, q⟩ := (show ∃ c g env w, _ from h)
  exact (fun z => z) (by
    have z := meth_lift (Wv := Wv) (to := to) (dt := dNil) hC h
    obtain ⟨c, g, env, w, Q, B, q, k⟩ := z
    refine ⟨c, g, env, w, Q, B, q, fun v H' pq => ?_⟩
    obtain ⟨a, dx, fs, h1, h2, h3, h4⟩ := k v H' pq
    obtain ⟨c', g', env', w', Q', B', q', k'⟩ := h4
    exact ⟨a, dx, fs, h1, h2, h3, k' [] _ ⟨g', w', [], .rfl, B'.R, .nil, q'⟩⟩)

/-! ### making -/
theorem make_guards {A : Around} {C : Addr} {us : List Value} {kw : List (Str × Value)} : (A.under (.builtin "type.__call__" ⟨.ref C :: us, kw⟩)).guards = A.guards := by
  first | rfl | simp [Around.under, Code.weight, Code.isCreation, Code.isGuard, Code.isCaller, Code.frames, Code.isFrame, guardIds]
structure DMak (P : Program) (w : World) (K : PySem.W.Frag) (mg : Str → Option Value) (base : Heap) (k : Nat) (n : Str) (ar : Nat) (sp : DSp) : Prop where
  ex : ∃ (C f : Addr) (fd : FuncData) (ps : List Str), ClsAt K n C ∧ Mk K C f ∧ mg n = some (.ref C) ∧ FnG P w K mg base k f fd ps (liftSp K sp) ∧ Binds K fd ps [] ∧ ps.length = ar
theorem DMak.mono {P : Program} {w : World} {K : PySem.W.Frag} {mg : Str → Option Value} {base : Heap} {j k : Nat} {n : Str} {ar : Nat} {sp : DSp} (c : DMak P w K mg base j n ar sp) (h : j ≤ k) : DMak P w K mg base k n ar sp :=
  let ⟨C, f, fd, ps, a, b, d, F, r⟩ := c.ex; ⟨C, f, fd, ps, a, b, d, F.mono h, r⟩
def tMakeG (C : Addr) (sp : Sp) (Wv : WX) (t : TA) : TE := fun σ H Q => t σ H fun vs H1 => ∀ x dx, H1 x = none → H1 dx = none → dx ≠ x →
  sp (.ref x :: vs) (upd (upd H1 dx (.own x)) x (.ins C dx [])) (fun v H2 => v = .non ∧ Q (.ref x) H2) (WE Wv σ)
theorem run_makeG {pins : List (Addr × Obj)} {σ : St} {H : Hp} {s : Shared} {Q : VK} {us : List Value} {vs : List V} (M : Mk X.K C f) (F : FnG X.prog X.w X.K X.mg X.base k f fd ps sp) (hr : Room (k + 1) X.A) (hgd : X.A.guards = some []) (hb : Binds X.K fd ps [])
    (tk : Takes X Wv) (I : Inv X pins σ H s) (r : Vals vs us)
    (h : ∀ x dx, H x = none → H dx = none → dx ≠ x → sp (.ref x :: vs) (upd (upd H dx (.own x)) x (.ins C dx [])) (fun v H2 => v = .non ∧ Q (.ref x) H2) (WE Wv σ)) :
    wpAny (model X.prog X.w) X.A (call (.ref C) us) (EP X pins σ Q) X.xe s := by
  have hq := h (s.heap.objs.size + 1) s.heap.objs.size (I.hok.fresh (Nat.le_succ _)) (I.hok.fresh (Nat.le_refl _)) (Nat.ne_of_lt (Nat.lt_succ_self _))
  have I2 := Inv.made (C := C) I
  have r2 : Vals (V.ref (s.heap.objs.size + 1) :: vs) (Value.ref (s.heap.objs.size + 1) :: us) := .cons rfl r
  have hl : (Value.ref (s.heap.objs.size + 1) :: us).length = ps.length := by
    have e := r2.length
    rw [F.len _ _ _ _ hq] at e
    exact e.symm
  have bt := hb { s with heap := (s.heap.push PySem.W.emptyDict).push (PySem.W.instObj C s.heap.objs.size) } (Value.ref (s.heap.objs.size + 1) :: us) I2.kIn (by rw [List.append_nil]; exact hl)
  rw [List.append_nil] at bt
  refine wpAny_call (make_map (f := f) I.kIn M.makes M.init (beq_iff_eq.mp M.fn) (codeAny_mono (F.run _ X.stack _ _ ⟨Value.ref (s.heap.objs.size + 1) :: us, []⟩ (Value.ref (s.heap.objs.size + 1) :: us) _ _ _ (hr.make C us []) (make_guards.trans hgd)
    (I2.env0.make C us []) bt r2 hq) fun r s' hq' => ?_))
  cases r with
  | error e => exact passAt tk σ pins _ _ e s' I2 hq'
  | ok fl =>
    cases fl with
    | ret u =>
      obtain ⟨v, H', I3, rv, ev, q3⟩ := I2.after hq'
      subst ev
      exact ⟨rv, ⟨V.ref (s.heap.objs.size + 1), H', I3, rfl, q3⟩⟩
    | next => exact False.elim hq'
    | brk => exact False.elim hq'
    | cont => exact False.elim hq'
def dMake (n : Str) (sp : DSp) (t : DTA) : DTE := fun env w Q => t env w fun xs w1 => ∀ x dx, w1.m x = none → sp (.ref x :: xs) ((w1.put x (.ins n dx [])).inn env) fun d w2 => d = .non ∧ ∃ fs, w2.m x = some (.ins n dx fs) ∧ Q (.obj n fs) ((w2.del x).as w1)
theorem make_lift {σ : St} {H : Hp} {Qv : VK} (hC : ClsAt X.K n C) (h : liftE X.K Wv (dMake n dsp dt) σ H Qv) : tMakeG C (liftSp X.K dsp) Wv (liftA X.K Wv dt) σ H Qv := by
  obtain ⟨c, g, env, w, Q, B, q, kk⟩ := h
  refine bindA B q fun vs H1 g1 w1 xs l1 B1 r1 q1 => fun x dx hx hdx hne => ?_
  have hx' : (upd H1 dx (.own x)) x = none := by rw [upd_ne (Ne.symm hne)]; exact hx
  have R2 : Rel X.K c g1 (w1.put x (.ins n dx [])) (upd (upd H1 dx (.own x)) x (.ins C dx [])) := (B1.R.other hdx).allocM hx' (.ins hC .nil)
  have B2 : Bx X.K Wv c g1 env (w1.put x (.ins n dx [])) σ (upd (upd H1 dx (.own x)) x (.ins C dx [])) := ⟨R2, B1.E, B1.X⟩
  have e1 : w1.e = c.e := B1.R.ex
  refine sp_lift (Q := fun d w2 => d = .non ∧ ∃ fs, w2.m x = some (.ins n dx fs) ∧ Q (.obj n fs) (w2.del x)) B2 .rfl (fun v H' ⟨g2, w2, d, l2, R3, r2, hd, fs, em, q2⟩ => ?_) (.cons (.ref x) r1) (q1 x dx (B1.R.noM hx))
  subst hd
  cases r2
  refine ⟨rfl, ?_⟩
  obtain ⟨g3, l3, R4, r4⟩ := R3.frz em
  exact kk _ _ ⟨g3, _, _, (l1.trans l2).trans l3, R4, r4, q2⟩
/-- C(e, ..) -/
theorem de_make (F : DMak X.prog X.w X.K X.mg X.base k n ar dsp) (hr : Room (k + 1) X.A) (hgd : X.A.guards = some []) (tk : Takes X Wv) (ha : DA X Wv (e :: es) dt) (hg : Gl X n := by rfl)
    (hdb : (n == ("__debug__" : Str)) = false := by decide) (he : starEach (e :: es) X.env = (false, eval e X.env) :: starEach es X.env := by rfl) (hpl : (backTo pos (starEach es X.env)).any (·.1) = false := by rfl) :
    DE X Wv (.Call (.Name n p) (e :: es) [] pos) (dMake n dsp dt) := by
  obtain ⟨C, f, fd, ps, hC, M, hm, FF, hb, _⟩ := F.ex
  refine ⟨PE_imp (t := tMakeG C (liftSp X.K dsp) Wv (liftA X.K Wv dt)) ⟨fun pins s σ H Q I h => ?_⟩ fun σ H Qv h => make_lift hC h⟩
  refine wpAny_Call_Name_kw (ld_glob I hg hm ?_ hdb)
  refine PySem.W.callWith_K (h₀ := X.base) I.ok.mod.kin M.kp (thn (ha.pa.run pos pins s σ H _ I h) fun us s1 ⟨vs, H1, I1, r, q⟩ => ⟨I1.kIn, ?_⟩) he hpl
  exact run_makeG M FF hr hgd hb tk I1 r q
end
end DL

/-! DLm: small words for the readings. -/
/-! DLt: sets of texts, as they stand in the heap. -/
namespace DL
open PySem PySem.Spec PyProof.Rows L2
def kS (e : Int × Value) : Str := match e.2 with
  | .str x _ => x
  | _ => Str.empty
section
variable {P : Program} {w : World}
def GoodS (P : Program) (w : World) (e : Int × Value) : Prop := ∃ x u, e.2 = Value.str x u ∧ e.1 = (strKind P w).hash x
/-- a set of texts at a: S tells its members, n of them -/
def SetS (P : Program) (w : World) (h : Heap) (a : Addr) (S : Str → Bool) (n : Nat) : Prop :=
  ∃ ob ee p0 tb, h.get? a = some ob ∧ ob.ExactSet ∧ ob.data = .set ee p0 tb ∧ (∀ e ∈ ee.toList, GoodS P w e) ∧ (ee.toList.map kS).Nodup ∧ (∀ x, S x = true ↔ x ∈ ee.toList.map kS) ∧
    ee.size < scanBound ∧ tb.fits ee.size = true ∧ ee.size = n ∧ Ris tb.place.toList ∧ (w.params.followText "set-order" = true ∨ tb.led = true)
theorem goodS_el {l : List (Int × Value)} (g : ∀ e ∈ l, GoodS P w e) : ElemsOf (strKind P w) l := by
  intro e he
  obtain ⟨x, u, e1, e2⟩ := g e he
  refine ⟨⟨x, ?_, e2⟩, ?_⟩
  · rw [e1]; exact strKind_is P w x u
  · rw [e1] <;> rfl
theorem goodS_is {e : Int × Value} (g : GoodS P w e) (x : Str) : (strKind P w).is x e.2 = true ↔ kS e = x := by
  obtain ⟨y, u, e1, _⟩ := g
  unfold kS
  rw [e1]
  show ((y == x) = true) ↔ y = x
  exact beq_iff_eq
theorem goodS_mem {l : List (Int × Value)} (g : ∀ e ∈ l, GoodS P w e) (x : Str) : x ∈ l.map kS ↔ ∃ e ∈ l, (strKind P w).is x e.2 = true := by
  constructor
  · intro hx
    obtain ⟨e, he, q⟩ := List.mem_map.mp hx
    exact ⟨e, he, (goodS_is (g e he) x).mpr q⟩
  · intro ⟨e, he, q⟩
    exact List.mem_map.mpr ⟨e, he, (goodS_is (g e he) x).mp q⟩
theorem SetS.keep {h h' : Heap} {a : Addr} {S : Str → Bool} {n : Nat} (R : SetS P w h a S n) (k : ∀ o, h.get? a = some o → h'.get? a = some o) : SetS P w h' a S n :=
  let ⟨ob, ee, p0, tb, ho, r⟩ := R; ⟨ob, ee, p0, tb, k ob ho, r⟩
end
section
variable {P : Program} {w : World} {A : Around} {E : Value → Shared → Prop} {s : Shared} {a : Addr} {S : Str → Bool} {n : Nat}
theorem setS_tail {gr : Bool → Sem Unit} (hgr : ∀ (b : Bool) (s₁ : Shared) (Q' : Unit → Shared → Prop), Q' () s₁ → wpAny (model P w) A (gr b) Q' E s₁)
    {ob : Obj} {ee : Array (Int × Value)} {p0 : Nat} {tb : SetTable} (ho : s.heap.get? a = some ob) (hx : ob.ExactSet) (hd : ob.data = .set ee p0 tb)
    {e1 : Array (Int × Value)} {t2 : SetTable} {S' : Str → Bool} (g1 : ∀ e ∈ e1.toList, GoodS P w e) (nd1 : (e1.toList.map kS).Nodup) (m1 : ∀ x, S' x = true ↔ x ∈ e1.toList.map kS)
    (hb : e1.size < scanBound) (hf : t2.fits e1.size = true) (hr : Ris t2.place.toList) (hl : w.params.followText "set-order" = true ∨ t2.led = true) {wasDummy : Bool} {R : Option Bool → Shared → Prop}
    (hR : ∀ h', Heap.SameBut a s.heap h' → SetS P w h' a S' e1.size → R (some true) { s with heap := h' }) :
    wpAny (model P w) A (do
        storeSet a e1 t2
        if (!wasDummy && t2.tooFull) = true then do
            gr (relayAll t2 e1 (SetTable.grown e1.size)).2.2
            storeSet a (relayAll t2 e1 (SetTable.grown e1.size)).1 (relayAll t2 e1 (SetTable.grown e1.size)).2.1
            pure (some true)
          else pure (some true)) R E s := by
  have at1 := store_at (es' := e1) (t' := t2) ho hd
  have same1 := Heap.SameBut.update s.heap a (Obj.putSet e1 t2)
  refine wpAny_bind (wpAny_storeSet_of ho hd ?_ (fits_of_scanBound hb))
  split
  · have q1 := relayAll_perm t2 e1 (SetTable.grown e1.size)
    have q2 := relayAll_fits t2 e1 (SetTable.grown e1.size)
    have q3 := relayAll_ris t2 e1 (SetTable.grown e1.size)
    have q4 := relayAll_led t2 e1 (SetTable.grown e1.size)
    generalize relayAll t2 e1 (SetTable.grown e1.size) = Z at q1 q2 q3 q4 ⊢
    obtain ⟨e2, t3, gv⟩ := Z
    dsimp only at q1 q2 q3 q4 ⊢
    have sz : e2.size = e1.size := by simpa using q1.length_eq
    have hb2 : e2.size < scanBound := by omega
    have pk := q1.map kS
    refine wpAny_bind (hgr _ _ _ (wpAny_bind (wpAny_storeSet_of at1 rfl ?_ (fits_of_scanBound hb2))))
    have at2 := store_at (es' := e2) (t' := t3) at1 rfl
    refine wpAny_pure (hR _ (same1.trans (Heap.SameBut.update _ a _)) ⟨_, e2, _, t3, at2, hx, rfl, fun e he => g1 e (q1.mem_iff.mp he), pk.nodup_iff.mpr nd1, fun x => (m1 x).trans pk.mem_iff.symm, hb2, q2, sz, q3, ?_⟩)
    exact hl.imp id fun z => q4.trans z
  · exact wpAny_pure (hR _ same1 ⟨_, e1, _, t2, at1, hx, rfl, g1, nd1, m1, hb, hf, rfl, hr, hl⟩)
theorem setS_add {x : Str} {u : Tok} {Q : Bool → Shared → Prop} (R : SetS P w s.heap a S n) (room : n + 1 < scanBound)
    (hQ : ∀ h' m, Heap.SameBut a s.heap h' → m ≤ n + 1 → SetS P w h' a (fun y => S y || decide (y = x)) m → Q (!S x) { s with heap := h' }) :
    wpAny (model P w) A (setAddHashed a (.str x u) ((strKind P w).hash x)) Q E s := by
  obtain ⟨ob, ee, p0, tb, ho, hx, hd, g, nd, hm, hb, hf, hn, hr, hl⟩ := R
  have isx : (strKind P w).is x (.str x u) = true := strKind_is P w x u
  have scx : (Value.str x u).scannable = true := rfl
  have els : ElemsOf (strKind P w) ee.toList := goodS_el g
  unfold setAddHashed setAddHashedIn
  refine wpAny_holding (wpAny_bind (wpAny_setState_of ho hd hf ?_))
  dsimp only
  rw [byScan_of scx hb els]
  simp only [↓reduceIte]
  unfold setAddByScan
  refine wpAny_bind (wpAny_bind (wpAny_rule (wpAny_bind (wpAny_setScan_of isx ho hd hf els ?_))))
  cases fi : List.findIdx? (fun e => (strKind P w).is x e.2) ee.toList with
  | some j =>
    dsimp only
    obtain ⟨hj, pj, _⟩ := List.findIdx?_eq_some_iff_getElem.mp fi
    have yes : S x = true := (hm x).2 ((goodS_mem g x).2 ⟨ee.toList[j], List.getElem_mem hj, pj⟩)
    have q := hQ s.heap n (Heap.SameBut.refl a s.heap) (Nat.le_succ n) ⟨ob, ee, p0, tb, ho, hx, hd, g, nd, fun y => by
      rw [Bool.or_eq_true, decide_eq_true_eq, ← hm y]
      exact ⟨fun z => z.elim id (fun e => e ▸ yes), .inl⟩, hb, hf, hn, hr, hl⟩
    rw [yes] at q
    exact wpAny_pure (wpAny_pure q)
  | none =>
    dsimp only
    have away : x ∉ ee.toList.map kS := fun z => by
      obtain ⟨e, he, q⟩ := (goodS_mem g x).1 z
      have c := List.findIdx?_eq_none_iff.mp fi e he
      rw [q] at c
      cases c
    have no : S x = false := by
      cases q : S x with
      | false => rfl
      | true => exact absurd ((hm x).1 q) away
    have gw : ∀ (b : Bool) {s₁ : Shared} {Q' : Unit → Shared → Prop}, Q' () s₁ → wpAny (model P w) A (match b with | true => rule "set.scan.the-table-gave-way" | false => pure ()) Q' E s₁ := by
      intro b s₁ Q' q
      cases b <;> first | exact wpAny_pure q | exact wpAny_rule q
    have q1 := layNew_perm tb ee ((strKind P w).hash x) (.str x u)
    have q2 := layNew_fits tb ee ((strKind P w).hash x) (.str x u)
    have q3 := layNew_ris tb ee ((strKind P w).hash x) (.str x u) hr
    have q4 := layNew_led tb ee ((strKind P w).hash x) (.str x u)
    generalize layNew tb ee ((strKind P w).hash x) (.str x u) = Z at q1 q2 q3 q4 ⊢
    obtain ⟨e1, t1, wd, gv⟩ := Z
    dsimp only at q1 q2 q3 q4 ⊢
    rw [Array.toList_push] at q1
    have pc : e1.toList.Perm (((strKind P w).hash x, Value.str x u) :: ee.toList) := q1.trans (List.perm_append_singleton _ _)
    have pk : (e1.toList.map kS).Perm (x :: ee.toList.map kS) := pc.map kS
    have g1 : ∀ e ∈ e1.toList, GoodS P w e := by
      intro e he
      rcases List.mem_cons.mp (pc.mem_iff.mp he) with z | z
      · rw [z]; exact ⟨x, u, rfl, rfl⟩
      · exact g e z
    have nd1 : (e1.toList.map kS).Nodup := pk.nodup_iff.mpr (List.nodup_cons.mpr ⟨away, nd⟩)
    have m1 : ∀ y, (S y || decide (y = x)) = true ↔ y ∈ e1.toList.map kS := by
      intro y
      rw [Bool.or_eq_true, decide_eq_true_eq, hm y, pk.mem_iff, List.mem_cons]
      exact Or.comm
    have sz : e1.size = n + 1 := by
      have := pc.length_eq
      rw [List.length_cons, Array.length_toList, Array.length_toList, hn] at this
      exact this
    have hb1 : e1.size < scanBound := by omega
    have led1 : w.params.followText "set-order" = true ∨ t1.led = true := hl.imp id fun z => q4.trans z
    have fin : ∀ h', Heap.SameBut a s.heap h' → SetS P w h' a (fun y => S y || decide (y = x)) e1.size → Q true { s with heap := h' } := by
      intro h' sb r
      have q := hQ h' _ sb (by omega) r
      rw [no] at q
      exact q
    refine wpAny_bind (gw _ ?_)
    split
    · refine wpAny_bind ?_
      rw [hashByValue_scannable 8 scx]
      refine wpAny_pure (setS_tail ?_ ho hx hd g1 nd1 m1 hb1 ?_ ?_ ?_ ?_)
      · intro b s₁ Q' q; cases b <;> first | exact wpAny_pure q | exact wpAny_rule q
      · first | (split <;> first | exact q2 | exact SetTable.fits_plain_off q2) | exact q2
      · first | (split <;> exact q3) | exact q3
      · first | (split <;> exact led1) | exact led1
      · intro h' sb r; dsimp only; exact wpAny_pure (fin h' sb r)
    · refine wpAny_bind (wpAny_pure ?_)
      simp only [↓reduceIte]
      refine setS_tail ?_ ho hx hd g1 nd1 m1 hb1 q2 q3 led1 ?_
      · intro b s₁ Q' q; cases b <;> first | exact wpAny_pure q | exact wpAny_rule q
      · intro h' sb r; dsimp only; exact wpAny_pure (fin h' sb r)
end

/-! ### the loop of update -/
def memT (xs : List Str) (i : Nat) (y : Str) : Bool := (xs.take i).any fun z => decide (z = y)
theorem memT_succ {xs : List Str} {i : Nat} {x : Str} (h : xs[i]? = some x) (y : Str) : memT xs (i + 1) y = (memT xs i y || decide (y = x)) := by
  unfold memT
  rw [List.take_succ, h]
  simp only [Option.toList, List.any_append, List.any_cons, List.any_nil, Bool.or_false]
  congr 1
  exact decide_eq_decide.mpr ⟨Eq.symm, Eq.symm⟩
section
variable {P : Program} {w : World} {A : Around} {R : Result → Shared → Prop} {I : Addr} {fp wr : List Addr} {G : Array GenState → Array GenState → Prop} {n : Nat} {Pn : Nat → Value → Prop} {St : Nat → Shared → Prop}
theorem setS_loop (W : WalksS P w A.in1 I fp wr G n Pn St) (b : Addr) (hbf : b ∉ fp) (xs : List Str) (hn : xs.length = n) (few : n + 1 < scanBound)
    (hval : ∀ i v, Pn i v → ∃ x t, xs[i]? = some x ∧ v = .str x t) :
    ∀ (k i : Nat) (s : Shared), n - i = k → i ≤ n → St i s → (∃ m, m ≤ i ∧ SetS P w s.heap b (memT xs i) m) →
      (∀ s' m, Moved (b :: wr) G s s' → SetS P w s'.heap b (memT xs n) m → R (.ok (.ret .none)) s') →
      codeAny (model P w) A (.builtin "set.update.loop" ⟨[.ref b, .ref I], []⟩) R s := by
  have hbw : b ∉ wr := fun h => hbf (W.sub _ h)
  have sub : ∀ c ∈ wr, c ∈ b :: wr := fun c hc => List.mem_cons_of_mem _ hc
  intro k
  induction k with
  | zero =>
    intro i s hk hi hst ⟨m, _, hS⟩ hR
    obtain rfl : i = n := by omega
    refine codeAny_builtin F.entry_set_update_loop ?_
    rw [Around.under_plainId F.plain_set_update_loop _]
    refine wpAny_bind (m := pyNext (.ref I)) (W.done s _ _ hst fun s' hm => ?_)
    exact wpAny_pure (hR s' m (hm.mono sub) (hS.keep fun o e => hm.heap b o hbw e))
  | succ k ih =>
    intro i s hk hi hst ⟨m, hmi, hS⟩ hR
    have lt : i < n := by omega
    refine codeAny_builtin F.entry_set_update_loop ?_
    rw [Around.under_plainId F.plain_set_update_loop _]
    refine wpAny_bind (m := pyNext (.ref I)) (W.item i s _ _ lt hst fun v s' hP hst' hm => ?_)
    obtain ⟨x, t, hx, rfl⟩ := hval i v hP
    have hS' : SetS P w s'.heap b (memT xs i) m := hS.keep fun o e => hm.heap b o hbw e
    show wpAny _ A.in1 (holding [Value.str x t] (setAdd b (.str x t)) >>= _) _ _ s'
    refine wpAny_bind (wpAny_holding ?_)
    unfold setAdd
    refine wpAny_holding (wpAny_bind ((strKind P w).pyHash (k := x) (strKind_is P w x t) ?_))
    refine setS_add (s := { s' with toks := s'.toks + 1 }) hS' (by omega) fun h' m2 same hm2 hS2 => ?_
    have hS3 : SetS P w h' b (memT xs (i + 1)) m2 := by
      have e : memT xs (i + 1) = fun y => memT xs i y || decide (y = x) := funext fun y => memT_succ hx y
      rw [e]; exact hS2
    refine wpAny_pure ⟨plainId_quiet F.plain_set_update_loop _, ih (i + 1) _ (by omega) lt (W.frame _ s' _ _ hst' (Nat.le_succ _) fun c hc o e => ?_) ⟨m2, by omega, hS3⟩ fun s'' m3 hm'' hS'' => ?_⟩
    · exact (same.2 c (fun z : c = b => hbf (by rw [← z]; exact hc))).trans e
    · refine hR s'' m3 (Moved.trans W.gtrans ((hm.mono sub).then_heap (Nat.le_succ _) fun c o hc e => ?_) hm'') hS''
      exact (same.2 c (fun z : c = b => hc (by rw [z]; exact List.mem_cons_self))).trans e
end
end DL

/-! DLu: set(xs), xs a list or a tuple of texts. Printed by settxt.py. -/
namespace DL
open PySem PySem.Spec PyProof.Rows L2
section
variable {P : Program} {w : World} {A : Around} {E : Value → Shared → Prop} {s : Shared}
theorem strs_get : ∀ {us : List Value} {xs : List Str}, StrsAre us xs → ∀ (i : Nat) (v : Value), us[i]? = some v → ∃ x t, xs[i]? = some x ∧ v = .str x t
  | _, _, .nil, i, v, h => by simp at h
  | _, _, .cons x t r, 0, v, h => by simp at h; exact ⟨x, t, rfl, h.symm⟩
  | _, _, .cons x t r, i + 1, v, h => strs_get r i v (by simpa using h)
/-- the empty set as set() lays it -/
def Fresh (w : World) (O : Obj) : Prop := O = { cls := .type "set", dict := none, data := .set #[] 0 (.fresh 0 0 (!w.params.followText "set-order")) }
theorem Fresh.set {O : Obj} {h : Heap} {a : Addr} (f : Fresh w O) (g : h.get? a = some O) : SetS P w h a (memT [] 0) 0 := by
  subst f
  refine ⟨_, #[], 0, _, g, ⟨rfl, rfl, rfl⟩, rfl, ?_, ?_, ?_, ?_, ?_, rfl, ?_, ?_⟩
  · intro e he; cases he
  · exact List.nodup_nil
  · intro x; exact ⟨fun z => (Bool.false_ne_true z).elim, fun z => by cases z⟩
  · decide
  · rfl
  · exact List.Pairwise.nil
  · cases q : w.params.followText "set-order" with
    | true => exact .inl rfl
    | false => exact .inr rfl
theorem memT_nil {xs : List Str} : memT xs 0 = memT [] 0 := rfl

theorem set_of_list {l : Addr} {items : Array Value} {xs : List Str} {Q : Value → Shared → Prop} (hh : A.handled = none) (hl : s.heap.IsList l items) (hx : StrsAre items.toList xs) (few : xs.length + 1 < scanBound)
    (h : ∀ (h' : Heap) (tk m : Nat), SetS P w h' s.heap.objs.size (memT xs xs.length) m → (∀ b o, s.heap.get? b = some o → h'.get? b = some o) → Q (.ref s.heap.objs.size) { s with heap := h', toks := tk }) :
    wpAny (model P w) A (call (.type "set") [.ref l]) Q E s := by
  have isz : items.size = xs.length := by rw [← hx.length]; simp
  obtain ⟨c, tl, hmro⟩ := F.called_set.mro
  have made := F.called_set.made
  have sub0 := F.called_set.sub
  refine wpAny_call (codeAny_of_tree (show wpAny _ _ (callAny (.type "set") _) _ _ _ from ?_))
  refine wpAny_pure ⟨Code.quiet_builtin _ (by decide +kernel), codeAny_builtin F.entry_type_call ?_⟩
  rw [Around.under_plain (weight_type_call_type "set" [.ref l] []) rfl]
  have nt := F.called_set.notType
  have cc := F.called_set.canCreate
  have tc := F.typeCall_set_1 (.ref l)
  repeat (any_goals (first | assumption | wp_step))
  obtain ⟨O, hO⟩ : ∃ O : Obj, Fresh w O := ⟨_, rfl⟩
  refine codeAny_mono (code_set_led1 (.ref l) (E := E) (Q₁ := fun obj s₁ => obj = .ref s.heap.objs.size ∧ s₁ = { s with heap := s.heap.push O }) ⟨rfl, by have q : O = _ := hO; subst q; rfl⟩) fun r s₁ hr => ?_
  cases r with
  | error e => exact hr
  | ok fl =>
    cases fl with
    | ret obj =>
      obtain ⟨rfl, rfl⟩ := hr
      have gS : (s.heap.push O).get? s.heap.objs.size = some O := Heap.get?_push_size _ (by have q : O = _ := hO; subst q; rfl)
      have hT : Shared.TypeIs { s with heap := s.heap.push O } (.ref s.heap.objs.size) "set" := ⟨_, gS, by have q : O = _ := hO; subst q; rfl⟩
      have il := F.called_set.init.lookup
      have ib := F.called_set.init.bind (.ref s.heap.objs.size)
      repeat (any_goals (first | assumption | wp_step))
      refine codeAny_mono (codeAny_call_builtin (R := wants (fun r s₂ => r = .none ∧ ∃ h' tk m, s₂ = { s with heap := h', toks := tk } ∧ SetS P w h' s.heap.objs.size (memT xs xs.length) m ∧
          (∀ b o, s.heap.get? b = some o → h'.get? b = some o)) E) F.called_set.init.plain F.entry_set_init (check_set_init_1 hT ?_)) fun r₂ s₂ hr₂ => ?_
      · have q : O = _ := hO
        subst q
        obtain ⟨ol, gl, cl, nl, dl⟩ := hl
        obtain ⟨oc, od, oda, osl⟩ := ol
        simp only at cl dl
        subst cl; subst dl
        have gl' : (s.heap.push { cls := .type "set", dict := none, data := .set #[] 0 (.fresh 0 0 (!w.params.followText "set-order")) }).get? l = some { cls := .type "list", dict := od, data := .seq items nl, slots := osl } := Heap.get?_push_of_some _ gl
        have n1 := F.sub_list_set
        have n2 := F.sub_list_frozenset
        have n3 : (Value.type "list" == Value.type "dict") = false := by decide
        have li : (s.heap.push { cls := .type "set", dict := none, data := .set #[] 0 (.fresh 0 0 (!w.params.followText "set-order")) }).IsList l items := ⟨_, gl', rfl, nl, rfl⟩
        unfold Builtin.«set.__init__» noKeywords Builtin.Frozenset.updateFrom
        generalize hPI : pyIter = PI
        wp_walk
        subst hPI
        refine wpAny_pyIter_list li ?_; refine wpAny_bind (wpAny_runValue ?_)
        have ls : l < s.heap.objs.size := Heap.lt_size gl
        have hn : A.in1.in1.in1.handled = none := by simp [hh]
        have sz1 : (s.heap.push { cls := .type "set", dict := none, data := .set #[] 0 (.fresh 0 0 (!w.params.followText "set-order")) }).objs.size = s.heap.objs.size + 1 := Heap.size_push ..
        have ne : l ≠ (s.heap.push { cls := .type "set", dict := none, data := .set #[] 0 (.fresh 0 0 (!w.params.followText "set-order")) }).objs.size := by
          rw [sz1]; exact Nat.ne_of_lt (Nat.lt_succ_of_lt ls)
        have nf : s.heap.objs.size ∉ [(s.heap.push { cls := .type "set", dict := none, data := .set #[] 0 (.fresh 0 0 (!w.params.followText "set-order")) }).objs.size, l] := by
          rw [sz1]
          intro z
          rcases List.mem_cons.mp z with z | z
          · exact absurd z (Nat.ne_of_lt (Nat.lt_succ_self _))
          · exact absurd (List.mem_singleton.mp z) (Nat.ne_of_gt ls)
        refine setS_loop ((Walks.list hn _ l ne items).toS) s.heap.objs.size nf xs isz.symm (by omega) (fun i v hv => strs_get hx i v (by rw [Array.getElem?_toList]; exact hv)) (items.size - 0) 0 _ (by omega) (Nat.zero_le _)
          ⟨⟨_, Heap.get?_push_size _ rfl, rfl, rfl⟩, (li.push _)⟩ ⟨0, Nat.le_refl _, ?hS0⟩ ?hR
        case hS0 => exact hO.set (Heap.get?_push_of_some _ gS)
        case hR =>
          intro s' m hm hS'
          obtain ⟨h', g2, d', tk', os'⟩ := s'
          obtain rfl : g2 = s.gens := hm.gens
          obtain rfl : d' = s.drawn := hm.drawn
          obtain rfl : os' = s.os := hm.os
          show wpAny _ _ _ _ _ _
          refine wpAny_pure ?_
          show wpAny _ _ (ret Value.none) _ _ _
          rw [isz] at hS'
          refine wpAny_pure ⟨rfl, h', tk', m, rfl, hS', fun b o e => ?_⟩
          have b1 := Heap.lt_size e
          refine hm.heap b o ?_ (Heap.get?_push_of_some _ (Heap.get?_push_of_some _ e))
          intro z
          rcases List.mem_cons.mp z with z | z
          · exact absurd z (Nat.ne_of_lt b1)
          · exact absurd (List.mem_singleton.mp z) (by rw [sz1]; exact Nat.ne_of_lt (Nat.lt_succ_of_lt b1))
      · cases r₂ with
        | error e => exact hr₂
        | ok fl₂ =>
          cases fl₂ with
          | ret r =>
            obtain ⟨rfl, h', tk, m, rfl, hS', hk'⟩ := hr₂
            repeat (any_goals (first | assumption | wp_step))
            exact h _ _ _ hS' hk'
          | _ => exact hr₂.elim
    | _ => exact hr.elim

theorem set_of_tuple {l : Addr} {items : Array Value} {xs : List Str} {Q : Value → Shared → Prop} (hh : A.handled = none) (hl : s.heap.IsTuple l items) (hx : StrsAre items.toList xs) (few : xs.length + 1 < scanBound)
    (h : ∀ (h' : Heap) (tk m : Nat), SetS P w h' s.heap.objs.size (memT xs xs.length) m → (∀ b o, s.heap.get? b = some o → h'.get? b = some o) → Q (.ref s.heap.objs.size) { s with heap := h', toks := tk }) :
    wpAny (model P w) A (call (.type "set") [.ref l]) Q E s := by
  have isz : items.size = xs.length := by rw [← hx.length]; simp
  obtain ⟨c, tl, hmro⟩ := F.called_set.mro
  have made := F.called_set.made
  have sub0 := F.called_set.sub
  refine wpAny_call (codeAny_of_tree (show wpAny _ _ (callAny (.type "set") _) _ _ _ from ?_))
  refine wpAny_pure ⟨Code.quiet_builtin _ (by decide +kernel), codeAny_builtin F.entry_type_call ?_⟩
  rw [Around.under_plain (weight_type_call_type "set" [.ref l] []) rfl]
  have nt := F.called_set.notType
  have cc := F.called_set.canCreate
  have tc := F.typeCall_set_1 (.ref l)
  repeat (any_goals (first | assumption | wp_step))
  obtain ⟨O, hO⟩ : ∃ O : Obj, Fresh w O := ⟨_, rfl⟩
  refine codeAny_mono (code_set_led1 (.ref l) (E := E) (Q₁ := fun obj s₁ => obj = .ref s.heap.objs.size ∧ s₁ = { s with heap := s.heap.push O }) ⟨rfl, by have q : O = _ := hO; subst q; rfl⟩) fun r s₁ hr => ?_
  cases r with
  | error e => exact hr
  | ok fl =>
    cases fl with
    | ret obj =>
      obtain ⟨rfl, rfl⟩ := hr
      have gS : (s.heap.push O).get? s.heap.objs.size = some O := Heap.get?_push_size _ (by have q : O = _ := hO; subst q; rfl)
      have hT : Shared.TypeIs { s with heap := s.heap.push O } (.ref s.heap.objs.size) "set" := ⟨_, gS, by have q : O = _ := hO; subst q; rfl⟩
      have il := F.called_set.init.lookup
      have ib := F.called_set.init.bind (.ref s.heap.objs.size)
      repeat (any_goals (first | assumption | wp_step))
      refine codeAny_mono (codeAny_call_builtin (R := wants (fun r s₂ => r = .none ∧ ∃ h' tk m, s₂ = { s with heap := h', toks := tk } ∧ SetS P w h' s.heap.objs.size (memT xs xs.length) m ∧
          (∀ b o, s.heap.get? b = some o → h'.get? b = some o)) E) F.called_set.init.plain F.entry_set_init (check_set_init_1 hT ?_)) fun r₂ s₂ hr₂ => ?_
      · have q : O = _ := hO
        subst q
        obtain ⟨ol, gl, cl, nl, dl⟩ := hl
        obtain ⟨oc, od, oda, osl⟩ := ol
        simp only at cl dl
        subst cl; subst dl
        have gl' : (s.heap.push { cls := .type "set", dict := none, data := .set #[] 0 (.fresh 0 0 (!w.params.followText "set-order")) }).get? l = some { cls := .type "tuple", dict := od, data := .seq items nl, slots := osl } := Heap.get?_push_of_some _ gl
        have n1 := F.sub_tuple_set
        have n2 := F.sub_tuple_frozenset
        have n3 : (Value.type "tuple" == Value.type "dict") = false := by decide
        have li : (s.heap.push { cls := .type "set", dict := none, data := .set #[] 0 (.fresh 0 0 (!w.params.followText "set-order")) }).IsTuple l items := ⟨_, gl', rfl, nl, rfl⟩
        unfold Builtin.«set.__init__» noKeywords Builtin.Frozenset.updateFrom
        generalize hPI : pyIter = PI
        wp_walk
        subst hPI
        refine wpAny_pyIter_tuple li ?_; refine wpAny_bind (wpAny_runValue ?_)
        have ls : l < s.heap.objs.size := Heap.lt_size gl
        have hn : A.in1.in1.in1.handled = none := by simp [hh]
        have sz1 : (s.heap.push { cls := .type "set", dict := none, data := .set #[] 0 (.fresh 0 0 (!w.params.followText "set-order")) }).objs.size = s.heap.objs.size + 1 := Heap.size_push ..
        have ne : l ≠ (s.heap.push { cls := .type "set", dict := none, data := .set #[] 0 (.fresh 0 0 (!w.params.followText "set-order")) }).objs.size := by
          rw [sz1]; exact Nat.ne_of_lt (Nat.lt_succ_of_lt ls)
        have nf : s.heap.objs.size ∉ [(s.heap.push { cls := .type "set", dict := none, data := .set #[] 0 (.fresh 0 0 (!w.params.followText "set-order")) }).objs.size, l] := by
          rw [sz1]
          intro z
          rcases List.mem_cons.mp z with z | z
          · exact absurd z (Nat.ne_of_lt (Nat.lt_succ_self _))
          · exact absurd (List.mem_singleton.mp z) (Nat.ne_of_gt ls)
        refine setS_loop ((Walks.tuple hn _ l ne items).toS) s.heap.objs.size nf xs isz.symm (by omega) (fun i v hv => strs_get hx i v (by rw [Array.getElem?_toList]; exact hv)) (items.size - 0) 0 _ (by omega) (Nat.zero_le _)
          ⟨⟨_, Heap.get?_push_size _ rfl, rfl, rfl⟩, (li.push _)⟩ ⟨0, Nat.le_refl _, ?hS0⟩ ?hR
        case hS0 => exact hO.set (Heap.get?_push_of_some _ gS)
        case hR =>
          intro s' m hm hS'
          obtain ⟨h', g2, d', tk', os'⟩ := s'
          obtain rfl : g2 = s.gens := hm.gens
          obtain rfl : d' = s.drawn := hm.drawn
          obtain rfl : os' = s.os := hm.os
          show wpAny _ _ _ _ _ _
          refine wpAny_pure ?_
          show wpAny _ _ (ret Value.none) _ _ _
          rw [isz] at hS'
          refine wpAny_pure ⟨rfl, h', tk', m, rfl, hS', fun b o e => ?_⟩
          have b1 := Heap.lt_size e
          refine hm.heap b o ?_ (Heap.get?_push_of_some _ (Heap.get?_push_of_some _ e))
          intro z
          rcases List.mem_cons.mp z with z | z
          · exact absurd z (Nat.ne_of_lt b1)
          · exact absurd (List.mem_singleton.mp z) (by rw [sz1]; exact Nat.ne_of_lt (Nat.lt_succ_of_lt b1))
      · cases r₂ with
        | error e => exact hr₂
        | ok fl₂ =>
          cases fl₂ with
          | ret r =>
            obtain ⟨rfl, h', tk, m, rfl, hS', hk'⟩ := hr₂
            repeat (any_goals (first | assumption | wp_step))
            exact h _ _ _ hS' hk'
          | _ => exact hr₂.elim
    | _ => exact hr.elim
end
end DL

/-! DLm: small words for the readings. -/
/-! DLv: sorted(set(xs)), len(set(xs)) for texts; sorted(d), sorted(xs). -/
namespace DL
open PySem PySem.Spec PyProof.Rows L2
def leT (a b : Str) : Bool := decide (a.cps.toList ≤ b.cps.toList)
def sortT (xs : List Str) : List Str := xs.mergeSort leT
theorem leT_data : PySem.W.dataLe false (fun b : Str => PyData.str b) = leT := PySem.W.dataLe_str id
theorem leT_total (a b : Str) : (leT a b || leT b a) = true := by
  unfold leT
  rcases List.le_total a.cps.toList b.cps.toList with h | h
  · rw [decide_eq_true h]; rfl
  · rw [decide_eq_true h, Bool.or_true]
theorem leT_trans (a b c : Str) (h1 : leT a b = true) (h2 : leT b c = true) : leT a c = true := by
  unfold leT at *
  exact decide_eq_true (List.le_trans (of_decide_eq_true h1) (of_decide_eq_true h2))
theorem leT_anti {a b : Str} (h1 : leT a b = true) (h2 : leT b a = true) : a = b := by
  unfold leT at *
  have e := List.le_antisymm (of_decide_eq_true h1) (of_decide_eq_true h2)
  cases a; cases b
  congr 1
  exact Array.toList_inj.mp e
theorem sortT_perm (xs : List Str) : (sortT xs).Perm xs := List.mergeSort_perm _ _
theorem sortT_ord (xs : List Str) : (sortT xs).Pairwise fun a b => leT a b = true := List.pairwise_mergeSort leT_trans leT_total xs
theorem sortT_eq {xs ys : List Str} (h : xs.Perm ys) : sortT xs = sortT ys :=
  List.Perm.eq_of_pairwise (fun a b _ _ h1 h2 => leT_anti h1 h2) (sortT_ord xs) (sortT_ord ys) (((sortT_perm xs).trans h).trans (sortT_perm ys).symm)
/-- each once -/
def nubT : List Str → List Str
  | [] => []
  | x :: r => if x ∈ r then nubT r else x :: nubT r
theorem nubT_mem {y : Str} : ∀ {xs : List Str}, y ∈ nubT xs ↔ y ∈ xs
  | [] => Iff.rfl
  | x :: r => by
    unfold nubT
    by_cases h : x ∈ r
    · rw [if_pos h, nubT_mem, List.mem_cons]
      exact ⟨.inr, fun z => z.elim (fun e => e ▸ h) id⟩
    · rw [if_neg h, List.mem_cons, List.mem_cons, nubT_mem]
theorem nubT_nodup : ∀ xs : List Str, (nubT xs).Nodup
  | [] => List.nodup_nil
  | x :: r => by
    unfold nubT
    by_cases h : x ∈ r
    · rw [if_pos h]; exact nubT_nodup r
    · rw [if_neg h]; exact List.nodup_cons.mpr ⟨fun z => h (nubT_mem.mp z), nubT_nodup r⟩
theorem memT_all {xs : List Str} {y : Str} : memT xs xs.length y = true ↔ y ∈ xs := by
  unfold memT
  rw [List.take_length, List.any_eq_true]
  exact ⟨fun ⟨z, hz, e⟩ => of_decide_eq_true e ▸ hz, fun h => ⟨y, h, decide_eq_true rfl⟩⟩
open PySem.W in
theorem strs_of_each : ∀ {vs : List Value} {bs : List Str}, EachIs (fun v b => ∃ t, v = Value.str b t) vs bs → StrsAre vs bs
  | _, _, .nil => .nil
  | _, _, .cons ⟨t, e⟩ r => by subst e; exact .cons _ t (strs_of_each r)
open PySem.W in
theorem each_of_strs : ∀ {vs : List Value} {bs : List Str}, StrsAre vs bs → EachIs (fun v b => ∃ t, v = Value.str b t) vs bs
  | _, _, .nil => .nil
  | _, _, .cons _ t r => .cons ⟨t, rfl⟩ (each_of_strs r)
/-- p lies beyond what stood -/
def Nw (h : Heap) (p : Addr) : Prop := ∃ h1 : Heap, (∀ b o, h.get? b = some o → h1.get? b = some o) ∧ h1.objs.size ≤ p
section
variable {P : Program} {w : World} {A : Around} {E : Value → Shared → Prop} {s : Shared} {r : Addr}
open PySem.W in
/-- sorted over what is collected as texts -/
theorem sorted_texts {xs : List Str} {Q : Value → Shared → Prop} (hz : xs.length ≤ sizeLine) (hu : A.units + 8 < cLine)
    (col : ∀ Q1 : List Value → Shared → Prop, (∀ s1 vs ys, (∀ b o, s.heap.get? b = some o → s1.heap.get? b = some o) → s1.gens = s.gens → s1.os = s.os → StrsAre vs ys → ys.Perm xs → Q1 vs s1) → wpAny (model P w) A.in1 (collect (.ref r)) Q1 E s)
    (hQ : ∀ s' p (out : Array Value) c, (∀ b o, s.heap.get? b = some o → s'.heap.get? b = some o) → s'.gens = s.gens → s'.os = s.os → Nw s.heap p → s'.heap.get? p = some (seqObj "list" out c) → StrsAre out.toList (sortT xs) → Q (.ref p) s') :
    wpAny (model P w) A (call (.builtin "sorted") [.ref r]) Q E s := by
  refine Calls.call_function_entry kind_sorted plain_sorted entry_sorted (args_sorted1 (.ref r)) ?_
  unfold Builtin.«sorted»
  refine wpAny_bind (m := checkCount "sorted" 1 1 _) (wpAny_pure (wpAny_bind (col _ fun s1 vs ys k1 g1 o1 hv hp => ?_)))
  have hl : vs.length = xs.length := hv.length.trans hp.length_eq
  refine wpAny_bind (wpAny_newList ?_ (by omega))
  have at0 : (s1.heap.push (seqObj "list" vs.toArray 0)).get? s1.heap.objs.size = some (seqObj "list" vs.toArray 0) := Heap.get?_push_size _ rfl
  have ev := each_of_strs hv
  refine wpAny_bind (wpAny_holding (list_sort_data (enc := fun b : Str => PyData.str b) (R := fun v b => ∃ t, v = Value.str b t) (s := { s1 with heap := s1.heap.push (seqObj "list" vs.toArray 0) }) at0 ev (ev.mono fun v b ⟨t, e⟩ => ⟨[], by subst e; exact .str b t, fun z => by cases z⟩)
    (.of fun _ _ => rfl) (.others fun b => ⟨fun z => (by cases z), fun xs z => (by cases z)⟩) (by rw [hp.length_eq]; exact hz) (fun b _ => by show A.units + 1 + 1 + 0 < cLine; omega) fun out lo eo => ?_))
  obtain ⟨c, hc⟩ := sortedHeap_at (vs := vs) (out := out.toArray) at0
  refine wpAny_pure ⟨_, rfl, hQ { s1 with heap := sortedHeap (s1.heap.push (seqObj "list" vs.toArray 0)) s1.heap.objs.size vs out.toArray } s1.heap.objs.size out.toArray c (fun b o e => ?_) g1 o1 ⟨s1.heap, k1, Nat.le_refl _⟩ hc ?_⟩
  · have q := k1 b o e
    have lt := Heap.lt_size q
    refine (sortedHeap_old (Nat.ne_of_lt lt) (by rw [size_push']; exact Nat.lt_succ_of_lt lt)).trans ?_
    exact Heap.get?_push_of_some _ q
  · have z := strs_of_each eo
    rw [leT_data] at z
    have e : ys.mergeSort leT = sortT xs := sortT_eq hp
    rw [← e]
    simpa using z
theorem sorted_setS {S : Str → Bool} {n : Nat} {xs : List Str} {Q : Value → Shared → Prop} (R : SetS P w s.heap r S n) (hS : ∀ y, S y = true ↔ y ∈ xs) (hh : A.handled = none) (hz : xs.length ≤ sizeLine) (hu : A.units + 8 < cLine)
    (hQ : ∀ s' p (out : Array Value) c, (∀ b o, s.heap.get? b = some o → s'.heap.get? b = some o) → s'.gens = s.gens → s'.os = s.os → Nw s.heap p → s'.heap.get? p = some (seqObj "list" out c) → StrsAre out.toList (sortT (nubT xs)) → Q (.ref p) s') :
    wpAny (model P w) A (call (.builtin "sorted") [.ref r]) Q E s := by
  obtain ⟨ob, ee, p0, tb, ho, hx, hd, g, nd, hm, hb, hf, hn, hr, hl⟩ := R
  have len : (nubT xs).length ≤ xs.length := by
    clear hS hz hQ
    induction xs with
    | nil => exact Nat.le_refl _
    | cons x r ih =>
      unfold nubT
      split
      · exact Nat.le_succ_of_le ih
      · exact Nat.succ_le_succ ih
  refine sorted_texts (xs := nubT xs) (Nat.le_trans len hz) hu (fun Q1 h1 => ?_) hQ
  refine collect_set (A := A.in1) hh ⟨ob, ho, hx.1, hd⟩ hf hb hr hl fun s1 vs k1 hs g1 o1 pm => ?_
  have key : ∀ us : List Value, (∀ v ∈ us, v ∈ ee.toList.map (·.2)) → ∃ ys, StrsAre us ys ∧ us.map (fun v => match v with | .str x _ => x | _ => Str.empty) = ys := by
    intro us
    induction us with
    | nil => intro _; exact ⟨[], .nil, rfl⟩
    | cons v us ih =>
      intro hv
      obtain ⟨ys, e1, e2⟩ := ih fun u hu => hv u (List.mem_cons_of_mem _ hu)
      obtain ⟨e, he, q⟩ := List.mem_map.mp (hv v List.mem_cons_self)
      obtain ⟨x, u, q1, _⟩ := g e he
      have q2 : v = Value.str x u := q.symm.trans q1
      subst q2
      exact ⟨x :: ys, .cons x u e1, by rw [List.map_cons, e2]⟩
  obtain ⟨ys, y1, y2⟩ := key vs fun v hv => pm.mem_iff.mp hv
  refine h1 s1 vs ys k1 g1 o1 y1 ?_
  have py : ys.Perm (ee.toList.map kS) := by
    rw [← y2]
    have q := pm.map fun v => match v with | .str x _ => x | _ => Str.empty
    rw [List.map_map] at q
    exact q
  refine (List.perm_ext_iff_of_nodup (py.nodup_iff.mpr nd) (nubT_nodup xs)).mpr fun y => ?_
  rw [py.mem_iff, ← hm y, hS y, nubT_mem]
end
end DL

/-! DLw: dict comprehensions. -/
namespace DL
open PySem PySem.Spec PyProof.Rows L2
theorem putD_len {κ : Type} [DecidableEq κ] (kvs : List (κ × D)) (k : κ) (v : D) : (putD kvs k v).length ≤ kvs.length + 1 := by
  unfold putD
  split
  · rw [List.length_map]; omega
  · rw [List.length_append]; exact Nat.le_refl _
/-- {k: v for target in iter if ..} -/
def dDcG (fin : List (Key × D) → W → DK → Prop) (ti : DTI) (gd : DTG) (tt : DTT) (tk te : DTE) (vs : List Nat) : DTE := fun env w Q => ti env w fun items w1 => items.length ≤ sizeLine ∧ ∃ Pv : Nat → List (Key × D) → W → Prop, Pv 0 [] w1 ∧
  (∀ i x acc w2, items[i]? = some x → acc.length ≤ i → Pv i acc w2 → gd x (wipeD env vs) w2.mute fun env2 w3 => tt env2 w3 fun b w4 => if b = true then tk env2 w4 fun y w5 => te env2 w5 fun z w6 => ∃ k, keyOf y = some k ∧ Pv (i + 1) (putD acc k z) (w6.as w1) else Pv (i + 1) acc (w4.as w1)) ∧
  ∀ acc w2, Pv items.length acc w2 → fin acc w2 Q
theorem dc_lift {X : Cx} {Wv : WX} {fin : List (Key × D) → W → DK → Prop} (hfin : FinDOk X.K fin) {ti : DTI} {gd : DTG} {tt : DTT} {tk te : DTE} {sl vs : List Nat} (hsl : ∀ i ∈ sl, i ∈ vs) {σ : St} {H : Hp} {Qv : VK} (h : liftE X.K Wv (dDcG fin ti gd tt tk te vs) σ H Qv) :
    tDc (liftI X Wv ti) (liftG X.K W0 sl gd) (liftT X.K W0 tt) (liftE X.K W0 tk) (liftE X.K W0 te) vs σ H (unlV X Qv) := by
  obtain ⟨c, g, env, w, Q, B, q, k⟩ := h
  refine ⟨c, g, env, w, _, B, q, fun items w1 H1 g1 J c1 l1 lk R1 it q1 => fun D hD => ?_⟩
  obtain ⟨hz, Pv, h0, hstep, hd⟩ := q1
  have hF : c1.F D = none := R1.noF hD
  refine ⟨fun i m H => m = items.length - i ∧ i ≤ items.length ∧ ∃ g2 acc accv w2, g1.le g2 ∧ RepK X.K g2 accv acc ∧ acc.length ≤ i ∧ Rel X.K (c1.fr D (.dK accv)) g2 w2 H ∧ Pv i acc w2,
    ⟨items.length, by simp, Nat.zero_le _, g1, [], [], w1, .rfl, .nil, Nat.le_refl _, R1.allocF hD, h0⟩, ?_⟩
  rintro i m H2 ⟨rfl, hi, g2, acc, accv, w2, l2, r2, ha, R2, p⟩
  by_cases hlt : i < items.length
  · refine .inr ⟨it.go (c1.fr D (.dK accv)) i w2 H2 g2 rfl l2 R2 hlt, fun H3 => ∃ g3 acc accv w3, g1.le g3 ∧ RepK X.K g3 accv acc ∧ acc.length ≤ i + 1 ∧ Rel X.K (c1.fr D (.dK accv)) g3 w3 H3 ∧ Pv (i + 1) acc w3, fun H3 ⟨g3, acc3, accv3, w3, z⟩ =>
      ⟨items.length - (i + 1), by omega, rfl, hlt, g3, acc3, accv3, w3, z⟩, fun x H' y => ?_⟩
    have hx : items[i]? = some items[i] := by simp [hlt]
    obtain ⟨g3, l3, R3, r3, _⟩ := it.yld (c1.fr D (.dK accv)) i w2 H2 g2 x H' _ rfl l2 R2 hx y
    have e1 : w1.e = c1.e := R1.ex
    have Bm : Bx X.K W0 (c1.fr D (.dK accv)).mute g3 (wipeD env vs) w2.mute (wipe σ vs) H' := ⟨R3.mute, (B.E.le ((l1.trans l2).trans l3)).wipe vs, fun _ _ _ _ _ _ _ _ px => by
      obtain ⟨_, _, _, _, _, _, _, z, _⟩ := px
      exact z⟩
    refine ⟨_, g3, _, _, _, _, Bm, r3, hstep i _ acc w2 hx ha p, fun env4 w4 σ4 H4 g4 l4 B4 s4 q4 => ⟨?_, ?_⟩⟩
    · have e := s4 vs hsl
      rw [e]
      have ww : ∀ us : List Nat, (∀ i ∈ us, i ∈ vs) → wipe (wipe σ vs) us = wipe σ vs := by
        intro us
        induction us with
        | nil => intro _; rfl
        | cons u us ih =>
          intro hu
          show (wipe (wipe σ vs) us).set u Option.none = wipe σ vs
          rw [ih fun i hi => hu i (List.mem_cons_of_mem _ hi)]
          have hm := hu u List.mem_cons_self
          have key : ∀ ws : List Nat, u ∈ ws → (wipe σ ws).set u none = wipe σ ws := by
            intro ws
            induction ws with
            | nil => intro h; cases h
            | cons v ws ih2 =>
              intro h
              unfold wipe
              by_cases e : u = v
              · subst e; rw [List.set_set]
              · rw [List.set_comm _ _ (Ne.symm e), ih2 ((List.mem_cons.mp h).resolve_left e)]
          exact key vs hm
      exact ww vs fun _ h => h
    · refine bindT B4 q4 fun b H5 g5 w5 l5 B5 q5 => ?_
      have c3 : ∀ {g' : Gh} {w' : W} {H' : Hp}, Rel X.K (c1.fr D (.dK accv)).mute g' w' H' → Rel X.K (c1.fr D (.dK accv)) g' (w'.as w1) H' := fun R => R.unmute e1
      cases b with
      | true =>
        refine iteT (bindE B5 q5 fun yv H6 g6 w6 y l6 B6 r6 q6 => bindE B6 q6 fun zv H7 g7 w7 z l7 B7 r7 q7 => ?_)
        obtain ⟨k, hk, q8⟩ := q7
        have R7 := c3 B7.R
        have l37 := ((((l3.trans l4).trans l5).trans l6).trans l7)
        refine ⟨accv, k, (r6.key hk).1, (R7.frm D _ upd_same).1, by have := r2.length; omega, g7, putD acc k z, putK accv k zv, w7.as w1, l2.trans l37, RepK.put r7 (r2.le l37), by have := putD_len acc k z; omega, R7.writeF, q8⟩
      | false => exact iteF ⟨g5, acc, accv, w5.as w1, ((l2.trans l3).trans l4).trans l5, r2.le ((l3.trans l4).trans l5), by omega, c3 B5.R, q5⟩
  · have e : i = items.length := by omega
    subst e
    exact .inl ⟨it.stop (c1.fr D (.dK accv)) w2 H2 g2 rfl l2 R2, lk.out (l1.trans l2) l2 k (hfin c1 g2 w2 H2 D accv acc Q R2 hF r2 (hd acc w2 p))⟩
section
variable {X : Cx} {Wv : WX} {kx vx tg iter : Expr} {ifs : List Expr} {scope : Scope} {own : List (Str × Nat)} {sl : List Nat} {pos : Pos} {ti : DTI} {gd : DTG} {tt : DTT} {tk te : DTE} {fin : List (Key × D) → W → DK → Prop}
theorem de_dcG (hfin : FinDOk X.K fin) (hc : X.calm = true) (hN : X.N.Nodup) (hi : DI X Wv tg iter ti) (ok : blkC X.N X.env.scope scope own = true)
    (hg : ∀ (s : Shared) (H : Hp) (C : Addr) (cl : List (Str × Addr)) (fp : List Addr), DG (X.blk s H scope (compEnvC scope cl C X.env) fp) W0 tg sl gd)
    (ht : ∀ (s : Shared) (H : Hp) (C : Addr) (cl : List (Str × Addr)) (fp : List Addr), DTs (X.blk s H scope (compEnvC scope cl C X.env) fp) W0 ifs tt)
    (hk : ∀ (s : Shared) (H : Hp) (C : Addr) (cl : List (Str × Addr)) (fp : List Addr), DE (X.blk s H scope (compEnvC scope cl C X.env) fp) W0 kx tk)
    (he : ∀ (s : Shared) (H : Hp) (C : Addr) (cl : List (Str × Addr)) (fp : List Addr), DE (X.blk s H scope (compEnvC scope cl C X.env) fp) W0 vx te) (hsl : (sl.all fun i => (own.map (·.2)).contains i) = true := by rfl) (hs : ∀ x, foldedSetIterable iter X.env x = pure x := by intro _; rfl) :
    DE X Wv (.DictComp kx vx [⟨tg, iter, ifs, 0⟩] scope pos) (dDcG fin ti gd tt tk te (own.map (·.2))) :=
  ⟨PE_imp (pe_unl (pe_dc hc hN hi.pi (blkOk_by ok) (fun s H C cl fp => (hg s H C cl fp).pg) (fun s H C cl fp => (ht s H C cl fp).pts) (fun s H C cl fp => (hk s H C cl fp).pe) (fun s H C cl fp => (he s H C cl fp).pe) hs)) fun σ H Qv h => dc_lift hfin (fun i hi => by simpa using List.all_eq_true.mp hsl i hi) h⟩
end
end DL

/-! DLm: small words for the readings. -/
/-! DLx: sorted, set, dict, list, str over trees. -/
namespace DL
open PySem PySem.Spec PyProof.Rows L2
section
variable {X : Cx}
/-- a set of texts, of no interest but for the next call -/
def SetX (X : Cx) (a : Addr) (xs : List Str) : HO := .ext fun h => ∃ m, SetS X.prog X.w h a (memT xs xs.length) m
def rSetT (X : Cx) : List V → Hp → VK → Prop := fun vs H Q => ∃ a xs, vs = [.ref a] ∧ (SqL X.K H a (xs.map V.str) ∨ SqT X.K H a (xs.map V.str)) ∧ xs.length + 1 < scanBound ∧ ∀ p, H p = none → Q (.ref p) (upd H p (SetX X p xs))
theorem cr_setT (hc : X.calm = true) : CallR X (.type "set") (rSetT X) := by
  intro pins s σ H vs us Q I r h
  obtain ⟨a, xs, rfl, hs, few, q⟩ := h
  rw [Vals.ref1 r]
  have fin : ∀ (h' : Heap) (tk m : Nat), SetS X.prog X.w h' s.heap.objs.size (memT xs xs.length) m → (∀ b o, s.heap.get? b = some o → h'.get? b = some o) → EP X pins σ Q (.ref s.heap.objs.size) { s with heap := h', toks := tk } := by
    intro h' tk m R k
    obtain ⟨ob, _, _, _, eo, _⟩ := id R
    exact ⟨.ref _, upd H s.heap.objs.size (SetX X s.heap.objs.size xs), I.laid (t' := tk) k (Nat.le_refl _) ⟨⟨m, R⟩, ⟨ob, eo⟩, fun h1 h2 ⟨m, p⟩ k => ⟨m, p.keep k⟩⟩, rfl, q _ (I.hok.fresh (Nat.le_refl _))⟩
  rcases hs with hs | hs
  · obtain ⟨its, rv, hl, _⟩ := I.list hs
    exact set_of_list (I.ok.hd hc) hl.isList rv.strs few fin
  · obtain ⟨its, rv, ⟨o, e, c, n, d⟩, _⟩ := I.tuple hs
    exact set_of_tuple (I.ok.hd hc) ⟨o, e, c, n, d⟩ rv.strs few fin
theorem srt_done {pins : List (Addr × Obj)} {σ : St} {H : Hp} {s s' : Shared} {Q : VK} {p : Addr} {out : Array Value} {c : Nat} {ys : List Str} (I : Inv X pins σ H s) (k : ∀ b o, s.heap.get? b = some o → s'.heap.get? b = some o) (g : s'.gens = s.gens) (o : s'.os = s.os)
    (hp : Nw s.heap p) (hg : s'.heap.get? p = some (seqObj "list" out c)) (hi : StrsAre out.toList ys) (hz : ys.length ≤ sizeLine) (q : Q (.ref p) (upd H p (.lst (ys.map V.str)))) : EP X pins σ Q (.ref p) s' := by
  obtain ⟨h1, k1, l1⟩ := hp
  have hn : H p = none := (I.hok.kept k1).fresh l1
  have h0 : s.heap.get? p = none := by
    cases e : s.heap.get? p with
    | none => rfl
    | some o => exact absurd (Nat.lt_of_lt_of_le (Heap.lt_size (k1 _ _ e)) l1) (Nat.lt_irrefl _)
  have hlen : (ys.map V.str).length ≤ sizeLine := by rw [List.length_map]; exact hz
  have J : Inv X pins σ (upd H p (.lst (ys.map V.str))) { s with heap := s'.heap, gens := s'.gens, drawn := s'.drawn, toks := s'.toks } :=
    I.call (ch := []) (Un.laidN k h0 hn) (I.hok.laidN k hn ⟨hlen, out.toList, c, vals_of_strs hi, hg⟩) (by rw [g]; exact I.bare) (fun _ z => nomatch z)
  have e : s' = { s with heap := s'.heap, gens := s'.gens, drawn := s'.drawn, toks := s'.toks } := by
    cases s'; cases s; cases o; rfl
  rw [e]
  exact ⟨.ref p, _, J, rfl, q⟩
theorem nubT_len (xs : List Str) : (nubT xs).length ≤ xs.length := by
  induction xs with
  | nil => exact Nat.le_refl _
  | cons x r ih =>
    unfold nubT
    split
    · exact Nat.le_succ_of_le ih
    · exact Nat.succ_le_succ ih
theorem sortT_len (xs : List Str) : (sortT xs).length = xs.length := (sortT_perm xs).length_eq
def rSortSet (X : Cx) : List V → Hp → VK → Prop := fun vs H Q => ∃ p xs, vs = [.ref p] ∧ H p = some (SetX X p xs) ∧ xs.length ≤ sizeLine ∧ ∀ q, H q = none → Q (.ref q) (upd H q (.lst ((sortT (nubT xs)).map V.str)))
theorem cr_sortSet (hc : X.calm = true) (hu : X.A.units + 8 < cLine) : CallR X (.builtin "sorted") (rSortSet X) := by
  intro pins s σ H vs us Q I r h
  obtain ⟨a, xs, rfl, ha, hz, q⟩ := h
  obtain ⟨m, R⟩ := (I.hok a _ ha).1
  rw [Vals.ref1 r]
  exact sorted_setS R (fun y => memT_all) (I.ok.hd hc) hz hu fun s' p out c k g o hp hg hi => srt_done I k g o hp hg hi (by rw [sortT_len]; exact Nat.le_trans (nubT_len xs) hz) (q p (let ⟨_, k1, l1⟩ := hp; (I.hok.kept k1).fresh l1))
def rSortLT (X : Cx) : List V → Hp → VK → Prop := fun vs H Q => ∃ a xs, vs = [.ref a] ∧ SqL X.K H a (xs.map V.str) ∧ ∀ q, H q = none → Q (.ref q) (upd H q (.lst ((sortT xs).map V.str)))
open PySem.W in
theorem cr_sortLT (hu : X.A.units + 8 < cLine) : CallR X (.builtin "sorted") (rSortLT X) := by
  intro pins s σ H vs us Q I r h
  obtain ⟨a, xs, rfl, hs, q⟩ := h
  rw [Vals.ref1 r]
  obtain ⟨its, rv, hl, hz⟩ := I.list hs
  rw [List.length_map] at hz
  have ev := each_of_strs rv.strs
  refine sorted_data (enc := fun b : Str => PyData.str b) (R := fun v b => ∃ t, v = Value.str b t) hl.isList ev (ev.mono fun v b ⟨t, e⟩ => ⟨[], by subst e; exact .str b t⟩) (.of fun _ _ => rfl) (.others fun b => ⟨fun z => (by cases z), fun xs z => (by cases z)⟩) hz
    (fun b _ => by show X.A.units + 2 + 0 < cLine; omega) fun out lo eo => ?_
  obtain ⟨ep, he⟩ := sortedAll_at s.heap its out.toArray
  have z := strs_of_each eo
  rw [leT_data] at z
  have hlen : ((sortT xs).map V.str).length ≤ sizeLine := by rw [List.length_map, sortT_len]; exact hz
  exact ⟨.ref _, upd H (s.heap.objs.size + 1) (.lst ((sortT xs).map V.str)), I.laid (t' := s.toks) (fun _ _ => sortedAll_old) (Nat.le_succ _) ⟨hlen, out, ep, vals_of_strs z, he⟩, rfl, q _ (I.hok.fresh (Nat.le_succ _))⟩
def rSortDK (_ : Cx) : List V → Hp → VK → Prop := fun vs H Q => ∃ a kvs xs, vs = [.ref a] ∧ Rd H a (.dK kvs) ∧ kvs.map (·.1) = xs.map Sum.inr ∧ ∀ q, H q = none → Q (.ref q) (upd H q (.lst ((sortT xs).map V.str)))
theorem cr_sortDK (hc : X.calm = true) (hu : X.A.units + 8 < cLine) : CallR X (.builtin "sorted") (rSortDK X) := by
  intro pins s σ H vs us Q I r h
  obtain ⟨a, kvs, xs, rfl, hd, hk, q⟩ := h
  rw [Vals.ref1 r]
  obtain ⟨z, lo, es, rel, dd⟩ := dk_rd I.hok hd
  obtain ⟨ep, hat⟩ := dd.dictAt
  have hl : xs.length = kvs.length := by simpa using (congrArg List.length hk).symm
  have ek : (xs.map V.str) = es.map fun p => kV p.1 := by
    have e2 : kvs.map (·.1) = es.map (·.1) := rel.keys
    have e3 := congrArg (List.map kV) (hk.symm.trans e2)
    rw [List.map_map, List.map_map] at e3
    exact e3
  refine sorted_texts (xs := xs) (by rw [hl]; exact z) hu (fun Q1 h1 => ?_) fun s' p out c k g o hp hg hi => srt_done I k g o hp hg hi (by rw [sortT_len, hl]; exact z) (q p (let ⟨_, k1, l1⟩ := hp; (I.hok.kept k1).fresh l1))
  refine PySem.W.kdu_collect (PySem.W.kdl_dict (knd := mixKind X.prog X.w) (kvs := es) (ep := ep) lo) (I.ok.hd hc) hat (by rw [← rel.length]; exact z) fun h' tk acc hk' hacc => ?_
  have hv : Vals (es.map fun p => kV p.1) acc.toList := keys_at (by rw [Array.length_toList]; exact hacc.1) fun j v e => hacc.2 j v (by rw [← Array.getElem?_toList]; exact e)
  rw [← ek] at hv
  exact h1 _ _ xs hk' rfl rfl hv.strs (.refl _)
end
end DL

/-! DLm: small words for the readings. -/
/-! DLy: the rules for sorted, dict, str. -/
namespace DL
open PySem PySem.Spec PyProof.Rows L2
/-- the texts of a list, a tuple -/
def textsIn (x : D) (w : W) (ss : List Str) : Prop := match x with
  | .lst xs => strsOf xs = some ss
  | .tup xs => strsOf xs = some ss
  | .ref p => ∃ xs, w.m p = some (.lst xs) ∧ strsOf xs = some ss
  | _ => False
theorem textsIn_v {K : PySem.W.Frag} {c : Ck} {g : Gh} {w : W} {H : Hp} {v : V} {x : D} {ss : List Str} (R : Rel K c g w H) (r : Rep K g v x) (h : textsIn x w ss) : ∃ a, v = .ref a ∧ (SqL K H a (ss.map V.str) ∨ SqT K H a (ss.map V.str)) := by
  cases r with
  | lst s r =>
    have e := r.strs h
    subst e
    exact ⟨_, rfl, .inl (R.sqL s)⟩
  | tup s r =>
    have e := r.strs h
    subst e
    exact ⟨_, rfl, .inr (R.sqT s)⟩
  | ref p =>
    obtain ⟨xs, em, e⟩ := h
    obtain ⟨vs, e1, r⟩ := R.mlst em
    have e := r.strs e
    subst e
    exact ⟨_, rfl, .inl (SqL.of e1)⟩
  | _ => exact False.elim h
theorem repStrs {K : PySem.W.Frag} {g : Gh} : ∀ ss : List Str, RepL K g (ss.map V.str) (ss.map D.str)
  | [] => .nil
  | x :: r => .cons (.str x) (repStrs r)
def dSortSet (t : DTE) : DTE := fun env w Q => t env w fun x w1 => ∃ ss, textsIn x w1 ss ∧ ss.length + 1 < scanBound ∧ Q (.lst ((sortT (nubT ss)).map .str)) w1
section
variable {X : Cx} {Wv : WX} {e : Expr} {t : DTE} {p p2 pos pos2 : Pos}
theorem scan_size {n : Nat} (h : n + 1 < scanBound) : n ≤ sizeLine := by
  rw [sizeLine_eq]
  unfold scanBound at h
  omega
/-- sorted(set(e)) -/
theorem de_sortSet (hc : X.calm = true) (hu : X.A.units + 64 < cLine) (h1 : X.mg "sorted" = none) (h2 : X.mg "set" = none) (he : DE X Wv e t) (g1 : Gl X "sorted" := by rfl) (g2 : Gl X "set" := by rfl)
    (v1 : bootBuiltins "sorted" = some (.builtin "sorted") := by decide +kernel) (v2 : bootBuiltins "set" = some (.type "set") := by decide +kernel)
    (s1 : starEach [.Call (.Name "set" p2) [e] [] pos2] X.env = (false, eval (.Call (.Name "set" p2) [e] [] pos2) X.env) :: starEach [] X.env := by rfl) (s2 : starEach [e] X.env = (false, eval e X.env) :: starEach [] X.env := by rfl)
    (b1 : (backTo pos (starEach [] X.env)).any (·.1) = false := by rfl) (b2 : (backTo pos2 (starEach [] X.env)).any (·.1) = false := by rfl) :
    DE X Wv (.Call (.Name "sorted" p) [.Call (.Name "set" p2) [e] [] pos2] [] pos) (dSortSet t) :=
  ⟨PE_imp (pe_callB (cr_sortSet hc (by omega)) g1 h1 v1 (pa_cons (pe_callTy (cr_setT hc) g2 h2 v2 (pa_cons he.pe pa_nil s2) (by decide) (by decide) s2 b2) pa_nil s1) (by decide) (by decide) s1 b1) fun σ H Qv ⟨c, g, env, w, Q, B, q, k⟩ =>
    bindE B q fun v H1 g1 w1 x l1 B1 r1 ⟨ss, hs, few, q1⟩ => by
      obtain ⟨a, rfl, hq⟩ := textsIn_v B1.R r1 hs
      exact ⟨a, ss, rfl, hq, few, fun p hp => ⟨p, ss, rfl, upd_same, scan_size few, fun q hq2 =>
        newL (B1.R.other hp) (repStrs _) q1 (fun v H' z => k v H' (z.up l1)) q hq2⟩⟩⟩
/-- sorted(e), e a list of texts, a dict with texts as keys -/
def sortR : DRC := fun xs w Q => match xs with
  | [.lst ds] => ∃ ss, strsOf ds = some ss ∧ Q (.lst ((sortT ss).map .str)) w
  | [.dic kvs] => ∃ ss, kvs.map (·.1) = ss.map Sum.inr ∧ Q (.lst ((sortT ss).map .str)) w
  | [.ref p] => (∃ ds ss, w.m p = some (.lst ds) ∧ strsOf ds = some ss ∧ Q (.lst ((sortT ss).map .str)) w) ∨ ∃ kvs ss, w.m p = some (.dic kvs) ∧ kvs.map (·.1) = ss.map Sum.inr ∧ Q (.lst ((sortT ss).map .str)) w
  | _ => False
theorem Rel.rdK {K : PySem.W.Frag} {c : Ck} {g : Gh} {w : W} {H : Hp} {a : Addr} {xs : List (Key × V)} (R : Rel K c g w H) (s : g.G a = some (.dK xs)) : Rd H a (.dK xs) := by
  rcases R.imm a _ s with ⟨_, h⟩ | ⟨o, _, h⟩
  · exact .inl h
  · exact .inr ⟨o, h⟩
theorem cd_sorted (hc : X.calm = true) (hu : X.A.units + 64 < cLine) : CallD X (.builtin "sorted") sortR := by
  refine ⟨_, CallR_or (cr_sortLT (by omega)) (cr_sortDK hc (by omega)), fun c g w H vs ds Q Qv R r q k => ?_⟩
  unfold sortR at q
  split at q
  · obtain ⟨v, rfl, a⟩ := r.one
    obtain ⟨ss, e, q⟩ := q
    cases a with
    | lst s r =>
      have z := r.strs e
      subst z
      exact .inl ⟨_, ss, rfl, R.sqL s, fun p hp => newL R (repStrs _) q k p hp⟩
  · obtain ⟨v, rfl, a⟩ := r.one
    obtain ⟨ss, e, q⟩ := q
    cases a with
    | dic s r => exact .inr ⟨_, _, ss, rfl, R.rdK s, r.keys.trans e, fun p hp => newL R (repStrs _) q k p hp⟩
  · obtain ⟨v, rfl, a⟩ := r.one
    cases a
    rcases q with ⟨xs, ss, em, e, q⟩ | ⟨kvs, ss, em, e, q⟩
    · obtain ⟨vs, e1, r⟩ := R.mlst em
      have z := r.strs e
      subst z
      exact .inl ⟨_, ss, rfl, SqL.of e1, fun p hp => newL R (repStrs _) q k p hp⟩
    · obtain ⟨vs, e1, r⟩ := R.mdic em
      exact .inr ⟨_, _, ss, rfl, .inl e1, r.keys.trans e, fun p hp => newL R (repStrs _) q k p hp⟩
  · exact q.elim
/-- dict(d) -/
theorem newK {K : PySem.W.Frag} {c : Ck} {g : Gh} {w : W} {H : Hp} {xs : List (Key × V)} {ds : List (Key × D)} {Q : DK} {Qv : VK} (R : Rel K c g w H) (r : RepK K g xs ds) (q : Q (.dic ds) w) (k : ∀ v H', PQ K c g Q v H' → Qv v H') (p : Addr) (hp : H p = none) : Qv (.ref p) (upd H p (.dK xs)) := by
  have l := Gh.add_le (o := .dK xs) (R.noG hp)
  exact k _ _ ⟨_, w, .dic ds, l, R.alloc hp, .dic Gh.add_at (r.le l), q⟩
theorem newKM {K : PySem.W.Frag} {c : Ck} {g : Gh} {w : W} {H : Hp} {xs : List (Key × V)} {ds : List (Key × D)} {Q : DK} {Qv : VK} (R : Rel K c g w H) (r : RepK K g xs ds) (q : ∀ p, w.m p = none → Q (.ref p) (w.put p (.dic ds))) (k : ∀ v H', PQ K c g Q v H' → Qv v H') (p : Addr) (hp : H p = none) : Qv (.ref p) (upd H p (.dK xs)) :=
  k _ _ ⟨g, _, .ref p, .rfl, R.allocM hp (.dic r), .ref p, q p (R.noM hp)⟩
/-- the pairs of a list of pairs -/
def pairsOf : List D → Option (List (Key × D))
  | [] => some []
  | .tup [k, d] :: r => (keyOf k).bind fun q => (pairsOf r).map ((q, d) :: ·)
  | _ => none
def dictIn (x : D) (w : W) (kvs : List (Key × D)) : Prop := match x with
  | .dic xs => kvs = xs
  | .lst xs => ∃ ps, pairsOf xs = some ps ∧ kvs = mergeD [] ps
  | .ref p => w.m p = some (.dic kvs)
  | _ => False
def dictR : DRC := fun xs w Q => match xs with
  | [x] => ∃ kvs, dictIn x w kvs ∧ Q (.dic kvs) w
  | _ => False
def dictMR : DRC := fun xs w Q => match xs with
  | [x] => ∃ kvs, dictIn x w kvs ∧ ∀ p, w.m p = none → Q (.ref p) (w.put p (.dic kvs))
  | _ => False
theorem RepL.pairs {K : PySem.W.Frag} {c : Ck} {g : Gh} {w : W} {H : Hp} (R : Rel K c g w H) : ∀ {vs : List V} {ds : List D} {ps : List (Key × D)}, RepL K g vs ds → pairsOf ds = some ps →
    ∃ (as : List Addr) (kvs : List (Key × V)), vs = as.map V.ref ∧ Paired (fun p kv => SqT K H p [kV kv.1, kv.2]) as kvs ∧ RepK K g kvs ps
  | _, _, _, .nil, e => by cases e; exact ⟨[], [], rfl, .nil, .nil⟩
  | _, _, _, @RepL.cons _ _ v vs d ds a r, e => by
    cases a with
    | @tup b us es s rr =>
      cases rr with
      | nil => simp [pairsOf] at e
      | @cons v1 us k es a1 rr => cases rr with
        | nil => simp [pairsOf] at e
        | @cons v2 us d2 es a2 rr => cases rr with
          | cons _ _ => simp [pairsOf] at e
          | nil =>
            have e' : ((keyOf k).bind fun q => (pairsOf ds).map ((q, d2) :: ·)) = some _ := e
            cases hk : keyOf k with
            | none => rw [hk] at e'; cases e'
            | some q =>
              rw [hk] at e'
              cases hp : pairsOf ds with
              | none => rw [hp] at e'; cases e'
              | some ps =>
                rw [hp] at e'; cases e'
                obtain ⟨as, kvs, e1, e2, e3⟩ := RepL.pairs R r hp
                obtain ⟨ek, _⟩ := a1.key hk
                subst ek
                exact ⟨b :: as, (q, v2) :: kvs, by rw [e1]; rfl, .cons (R.sqT s) e2, .cons a2 e3⟩
    | _ => simp [pairsOf] at e
theorem cd_dict0 (hc : X.calm = true) {Fin : List (Key × D) → W → DK → Prop} (fin : ∀ {c : Ck} {g : Gh} {w : W} {H : Hp} {xs : List (Key × V)} {ds : List (Key × D)} {Q : DK} {Qv : VK}, Rel X.K c g w H → RepK X.K g xs ds → Fin ds w Q → (∀ v H', PQ X.K c g Q v H' → Qv v H') → ∀ p, H p = none → Qv (.ref p) (upd H p (.dK xs))) :
    CallD X (.type "dict") fun xs w Q => match xs with
      | [x] => ∃ kvs, dictIn x w kvs ∧ Fin kvs w Q
      | _ => False := by
  refine ⟨_, CallR_or call_dictD (call_dictP hc), fun c g w H vs ds Q Qv R r q k => ?_⟩
  dsimp only at q
  split at q
  · obtain ⟨v, rfl, a⟩ := r.one
    obtain ⟨kvs, e, q⟩ := q
    cases a with
    | dic s rr =>
      cases e
      exact .inl ⟨_, _, rfl, R.rdK s, fin R rr q k⟩
    | lst s rr =>
      obtain ⟨ps, e1, rfl⟩ := e
      obtain ⟨as, zs, e0, e2, e3⟩ := rr.pairs R e1
      subst e0
      exact .inr ⟨_, as, zs, rfl, R.sqL s, e2, fin R (RepK.merge e3 .nil) q k⟩
    | ref p =>
      obtain ⟨vs, e1, rr⟩ := R.mdic e
      exact .inl ⟨_, _, rfl, .inl e1, fin R rr q k⟩
    | _ => exact False.elim e
  · exact q.elim
theorem cd_dict (hc : X.calm = true) : CallD X (.type "dict") dictR := cd_dict0 hc newK
theorem cd_dictM (hc : X.calm = true) : CallD X (.type "dict") dictMR := cd_dict0 hc newKM
/-- str(n) -/
def strR : DRC := fun xs w Q => match xs with
  | [.int i] => i.natAbs.log2 < 1920 ∧ Q (.str (toString i)) w
  | _ => False
theorem cd_str : CallD X (.type "str") strR := by
  refine ⟨_, call_str_int, fun c g w H vs ds Q Qv R r q k => ?_⟩
  unfold strR at q
  split at q
  · obtain ⟨v, rfl, a⟩ := r.one
    cases a
    exact ⟨_, rfl, q.1, k _ _ ⟨g, w, _, .rfl, R, .str _, q.2⟩⟩
  · exact q.elim
end
end DL

/-! DLm: small words for the readings. -/
/-! DLz: classes as they stand behind the top. -/
namespace DL
open PySem PySem.Spec PyProof.Rows L2
structure FnMe (K : PySem.W.Frag) (n m qual : Str) (st : Stmt) (ps : List Str) : Prop where
  ex : ∃ C f fd, ClsAt K n C ∧ Cls K C ∧ Meth K C m f ∧ Fun K m qual st f fd ∧ Binds K fd ps []
structure FnMk (K : PySem.W.Frag) (mg : Str → Option Value) (n qual : Str) (st : Stmt) (ps : List Str) : Prop where
  ex : ∃ C f fd, ClsAt K n C ∧ Mk K C f ∧ mg n = some (.ref C) ∧ Fun K "__init__" qual st f fd ∧ Binds K fd ps []
section
variable {K : PySem.W.Frag} {h : Heap} {mg : Str → Option Value} {C f : Addr} {R : Prop} {oc : Value} {od an : Option Addr} {osl : Array (Option Value)} {kV doc pm cdv ct : Value}
theorem Cl.ofC (n : Str) (X : K.In h) (G : h.Ns mainGlobals mg) (a : PySem.W.nsIn K mainGlobals n = some (some (.ref C))) (pg : PySem.W.plainGet K C Str.empty = true) (hd : PySem.W.hasDictIn K C = true) (po : PySem.W.plainOver K C = true)
    (sa : PySem.W.findIn K (.ref C) "__setattr__" = some (some (.builtin "object.__setattr__"))) (r : ClsAt K n C → Cls K C → mg n = some (.ref C) → R) : R := r a ⟨pg, hd, po, sa⟩ (PySem.W.mg_of X G a)
theorem FnMe.ofC (n m qual : Str) (st : Stmt) (ps : List Str) (kC : ClsAt K n C) (hC : Cls K C)
    (hb : ∀ (kV doc pm : Value) (an : Option Addr) (cdv ct : Value) (us : List Value), us.length = ps.length → bindArgs (PySem.W.fnOf m qual (defArgs st) (defBody st) (defScope st) .none kV doc pm an cdv ct) ⟨us, []⟩ = pure (ps.zip us))
    (a : PySem.W.findIn K (.ref C) m = some (some (.ref f))) (i : PySem.W.isFn K (.ref f) = true) (l : K.lookup f = some ⟨oc, od, .func (PySem.W.fnOf m qual (defArgs st) (defBody st) (defScope st) .none kV doc pm an cdv ct), osl⟩)
    (c : PySem.W.codeIn K cdv qual = true) (k : PySem.W.keepIn K (.ref f) = true) (r : FnMe K n m qual st ps → R) : R := by
  have F := fun_mk (st := st) l c k
  exact r ⟨⟨C, f, _, kC, hC, ⟨a, i, k⟩, F, F.binds hb⟩⟩
theorem FnMk.ofC (n qual : Str) (st : Stmt) (ps : List Str) (kC : ClsAt K n C) (hm : mg n = some (.ref C))
    (hb : ∀ (kV doc pm : Value) (an : Option Addr) (cdv ct : Value) (us : List Value), us.length = ps.length → bindArgs (PySem.W.fnOf "__init__" qual (defArgs st) (defBody st) (defScope st) .none kV doc pm an cdv ct) ⟨us, []⟩ = pure (ps.zip us))
    (mk : PySem.W.makesIn K C = true) (kp : PySem.W.keepIn K (.ref C) = true)
    (a : PySem.W.findIn K (.ref C) "__init__" = some (some (.ref f))) (i : PySem.W.isFn K (.ref f) = true) (l : K.lookup f = some ⟨oc, od, .func (PySem.W.fnOf "__init__" qual (defArgs st) (defBody st) (defScope st) .none kV doc pm an cdv ct), osl⟩)
    (c : PySem.W.codeIn K cdv qual = true) (k : PySem.W.keepIn K (.ref f) = true) (r : FnMk K mg n qual st ps → R) : R := by
  have F := fun_mk (st := st) l c k
  exact r ⟨⟨C, f, _, kC, ⟨mk, a, i, kp⟩, hm, F, F.binds hb⟩⟩
theorem thenT {T : PySem.W.Frag → Prop} {R : Prop} (_ : K.In h) (t : T K) (r : T K → R) : R := r t
theorem Fld.of {n g : Str} (kC : ClsAt K n C) (hC : Cls K C) (e : PySem.W.findIn K (.ref C) g = some none) : Fld K n g := ⟨⟨C, kC, hC, e⟩⟩
end
end DL

/-! DLm: small words for the readings. -/
/-! DLza: list(d.values()), list(d.items()). -/
namespace DL
open PySem PySem.Spec PyProof.Rows L2
def tListVals (te : TE) : TE := fun σ H Q => te σ H fun x H1 => ∃ d kvs, x = .ref d ∧ Rd H1 d (.dK kvs) ∧ ∀ p, H1 p = none → Q (.ref p) (upd H1 p (.lst (kvs.map (·.2))))
theorem vals_at : ∀ {us : List Value} {vs : List (Key × Value)}, us.length = vs.length → (∀ (j : Nat) (v : Value), us[j]? = some v → ∃ k : Key, vs[j]? = some (k, v)) → us = vs.map (·.2)
  | [], [], _, _ => rfl
  | [], _ :: _, h, _ => by cases h
  | _ :: _, [], h, _ => by cases h
  | u :: us, q :: vs, hl, h => by
    obtain ⟨k, e⟩ := h 0 u rfl
    cases e
    rw [List.map_cons, ← vals_at (us := us) (vs := vs) (Nat.succ.inj hl) fun j v hj => h (j + 1) v hj]
section
variable {X : Cx} {Wv : WX} {e : Expr} {te : TE} {t : DTE} {p pos apos cpos : Pos}
theorem pe_listVals (hc : X.calm = true) (he : PE X e te) (hg : Gl X "list") (hm : X.mg "list" = none) (hv : bootBuiltins "list" = some (.type "list")) (hbase : attributeBase e "values" X.env (eval e X.env) = eval e X.env) (hline : (apos.endLine == cpos.line) = true)
    (hs : starEach [.Call (.Attribute e "values" apos) [] [] cpos] X.env = (false, eval (.Call (.Attribute e "values" apos) [] [] cpos) X.env) :: starEach [] X.env) :
    PE X (.Call (.Name "list" p) [.Call (.Attribute e "values" apos) [] [] cpos] [] pos) (tListVals te) := by
  refine ⟨fun pins s σ H Q I hq => wpAny_Call_Name_kw (ld_blt I hg hm hv (PyProof.Rows.callWith_type1 ?_ hs rfl))⟩
  rw [hs]
  refine Calls.spliced_cons (rest := backTo pos (starEach [] X.env)) ?_
  refine wpAny_Call_method (T := "dict") (id := "dict.values") hbase rfl hline F.plainAttrs_dict F.slot_dict_values F.type_dict_values (thn (he.run pins s σ H _ I hq) fun u s1 ⟨x, H1, I1, rx, d, kvs, ex, hd, q⟩ => ?_)
  subst ex
  obtain rfl : u = Value.ref d := rx
  obtain ⟨z, lo, vs, rel, dd⟩ := dk_rd I1.hok hd
  obtain ⟨ep, hat⟩ := dd.dictAt
  have lk : kvs.length = vs.length := Paired.length rel
  have I2 : Inv X pins σ H1 { s1 with heap := s1.heap.push { cls := .type "dict_values", data := .fields #[.ref d] } } := I1.kept (t' := s1.toks) fun b ob q => Heap.get?_push_of_some _ q
  refine ⟨dd.typeIs, dd.mapOf.noDict, ?_⟩
  show wpAny _ _ (callWith cpos (.builtin "dict.values") [.ref d] [] []) _ X.xe s1
  refine method_meetsIn F.slot_dict_values F.entry_dict_values rfl (PySem.evalArgs_none ⟨rfl, dd.typeIs, F.args_dict_values_1 _, _, meets_dict_values (mixKind X.prog X.w) d lo, ⟨vs, dd⟩, ?_⟩)
  refine Calls.spliced_nil ?_
  refine PySem.W.kdl_call (PySem.W.kdl_values (knd := mixKind X.prog X.w) (kvs := vs) (ep := ep)) (I1.ok.hd hc) ⟨⟨_, Heap.get?_push_size _ rfl, rfl, rfl⟩, hat.push _⟩ (by rw [← lk]; exact z) fun h' tk acc c' hk hD hacc => ?_
  have ev := vals_at (us := acc.toList) (vs := vs) (by rw [Array.length_toList]; exact hacc.1) fun j v e => hacc.2 j v (by rw [← Array.getElem?_toList]; exact e)
  have hvals : Vals (kvs.map (·.2)) acc.toList := by
    rw [ev]
    clear ev hacc hD hk hat dd lk z hd q
    induction rel with
    | nil => exact .nil
    | cons a r ih => exact .cons a.2 ih
  have J := I2.laid (t' := tk) (a := _) (o := .lst (kvs.map (·.2))) hk (Nat.le_refl _) (show ObjOk X.prog X.w _ _ _ (.lst (kvs.map (·.2))) from ⟨by rw [List.length_map]; exact z, acc.toList, c', hvals, by rw [Array.toArray_toList]; exact hD⟩)
  exact ⟨.ref _, _, J, rfl, q _ (I2.hok.fresh (Nat.le_refl _))⟩
def dListVals (t : DTE) : DTE := fun env w Q => t env w fun x w1 => match x with
  | .dic kvs => Q (.lst (dvals kvs)) w1
  | .ref p => ∃ kvs, w1.m p = some (.dic kvs) ∧ Q (.lst (dvals kvs)) w1
  | _ => False
theorem RepK.vals {K : PySem.W.Frag} {g : Gh} : ∀ {xs : List (Key × V)} {ds : List (Key × D)}, RepK K g xs ds → RepL K g (xs.map (·.2)) (dvals ds)
  | _, _, .nil => .nil
  | _, _, .cons a r => .cons a (RepK.vals r)
theorem de_list_values (hc : X.calm = true) (hm : X.mg "list" = none) (he : DE X Wv e t) (hg : Gl X "list" := by rfl) (hv : bootBuiltins "list" = some (.type "list") := by decide +kernel) (hbase : attributeBase e "values" X.env (eval e X.env) = eval e X.env := by rfl) (hline : (apos.endLine == cpos.line) = true := by rfl)
    (hs : starEach [.Call (.Attribute e "values" apos) [] [] cpos] X.env = (false, eval (.Call (.Attribute e "values" apos) [] [] cpos) X.env) :: starEach [] X.env := by rfl) :
    DE X Wv (.Call (.Name "list" p) [.Call (.Attribute e "values" apos) [] [] cpos] [] pos) (dListVals t) :=
  ⟨PE_imp (pe_listVals hc he.pe hg hm hv hbase hline hs) fun σ H Qv ⟨c, g, env, w, Q, B, q, k⟩ => bindE B q fun v H1 g1 w1 x l1 B1 r1 q1 => by
    cases r1 with
    | dic s r => exact ⟨_, _, rfl, B1.R.rdK s, fun p hp => newL B1.R r.vals q1 (fun v H' z => k v H' (z.up l1)) p hp⟩
    | ref a =>
      obtain ⟨kvs, em, q2⟩ := q1
      obtain ⟨vs, e1, r⟩ := B1.R.mdic em
      exact ⟨_, _, rfl, .inl e1, fun p hp => newL B1.R r.vals q2 (fun v H' z => k v H' (z.up l1)) p hp⟩
    | _ => exact False.elim q1⟩
end
end DL

/-! DLm: small words for the readings. -/
/-! DLzb: for x in e, whatever e is. -/
namespace DL
open PySem PySem.Spec PyProof.Rows L2
def iAny (K : PySem.W.Frag) (te : TE) : TI := fun σ H R => te σ H fun x H1 => (∃ a xs, x = .ref a ∧ SqL K H1 a xs ∧ R (Itl K a) H1) ∨ (∃ a xs, x = .ref a ∧ SqT K H1 a xs ∧ R (Itt K a) H1) ∨ (∃ z, x = .str z ∧ R (Its z) H1) ∨
  ∃ d o kvs, x = .ref d ∧ H1 d = some (.frz o (.dK kvs)) ∧ R (Itk d o kvs) H1
theorem pi_any {X : Cx} {tg e : Expr} {te : TE} (he : PE X e te) : PI X tg e (iAny X.K te) := by
  refine ⟨fun pins s σ H R I h => thn (he.run pins s σ H _ I h) fun u s1 ⟨x, H1, I1, rx, q⟩ => ?_⟩
  rcases q with ⟨a, xs, rfl, hq, q⟩ | ⟨a, xs, rfl, hq, q⟩ | ⟨z, rfl, q⟩ | ⟨d, o, kvs, rfl, hd, q⟩
  · cases rx
    obtain ⟨its, rv, p, hz⟩ := I1.list hq
    exact wpAny_pyIter_list p.isList (pi_one (tk := s1.toks) I1 _ (turn_list a _) ⟨_, Heap.get?_push_size _ rfl, rfl, rfl⟩ q)
  · cases rx
    obtain ⟨its, rv, p, hz⟩ := I1.tuple hq
    exact wpAny_pyIter_tuple (items := its.toArray) p (pi_one (tk := s1.toks) I1 _ (turn_tuple a _) ⟨_, Heap.get?_push_size _ rfl, rfl, rfl⟩ q)
  · obtain ⟨t, rfl⟩ := rx
    by_cases ha : z.cps.all (· < 128) = true
    · exact wpAny_pyIter_ascii ha (pi_one (tk := s1.toks) I1 _ (turn_str _ z t "str_ascii_iterator" (.inl rfl)) ⟨_, Heap.get?_push_size _ rfl, rfl, rfl⟩ q)
    · exact wpAny_pyIter_wide (by simpa using ha) (pi_one (tk := s1.toks) I1 _ (turn_str _ z t "str_iterator" (.inr rfl)) ⟨_, Heap.get?_push_size _ rfl, rfl, rfl⟩ q)
  · cases rx
    obtain ⟨hs, hgd, hx, es, ep, vs, hdt, hsz, kv, hm⟩ := I1.frzK hd
    refine iter_keys hs hgd hx hdt (pi_one (tk := s1.toks) I1 _ (turn_keys _ hdt) ⟨_, Heap.get?_push_size _ rfl, rfl, ?_⟩ q)
    rw [hsz] <;> rfl
def itemsOf (x : D) (w : W) (Q : List D → W → Prop) : Prop := match x with
  | .lst xs => Q xs w
  | .tup xs => Q xs w
  | .str z => Q (signs z) w
  | .dic kvs => Q (dkeys kvs) w
  | _ => False
def dItA (t : DTE) : DTI := fun env w Q => t env w fun x w1 => itemsOf x w1 Q
theorem di_any {X : Cx} {Wv : WX} {tg e : Expr} {t : DTE} (h : DE X Wv e t) : DI X Wv tg e (dItA t) :=
  ⟨PI_imp (pi_any (pe_lk h.pe)) fun σ H Rv ⟨c, g, env, w, Q, B, q, k⟩ => bindE B q fun v H1 g1 w1 x l1 B1 r1 q1 => by
    cases r1 with
    | lst s r => exact .inl (.inl ⟨_, _, rfl, B1.R.sqL s, k _ w1 _ g1 _ _ l1 (.inl rfl) B1.R (isIt_list s r) q1⟩)
    | tup s r => exact .inl (.inr (.inl ⟨_, _, rfl, B1.R.sqT s, k _ w1 _ g1 _ _ l1 (.inl rfl) B1.R (isIt_tup s r) q1⟩))
    | str z => exact .inl (.inr (.inr (.inl ⟨_, rfl, k _ w1 _ g1 _ _ l1 (.inl rfl) B1.R isIt_str q1⟩)))
    | @dic a xs ds s r =>
      rcases B1.R.imm a _ s with ⟨hL, hH⟩ | ⟨o, hL, hH⟩
      · exact .inr ⟨a, _, hH, trivial, fun od nf => .inr (.inr (.inr ⟨a, od, xs, rfl, upd_same, k _ w1 _ g1 _ _ l1 (.inr ⟨a, od, xs, hL, s, rfl, nf⟩) (B1.R.lock s) (isIt_keys updL_same s r) q1⟩))⟩
      · exact .inl (.inr (.inr (.inr ⟨a, o, xs, rfl, hH, k _ w1 _ g1 _ _ l1 (.inl rfl) B1.R (isIt_keys hL s r) q1⟩)))
    | _ => exact False.elim q1⟩
end DL

/-! DLm: small words for the readings. -/
/-! DLzc: x = {..: .. for ..}; a, b = x, y. -/
namespace DL
open PySem PySem.Spec PyProof.Rows L2
section
variable {X : Cx} {Wv : WX}
theorem sw_trueD {kx vx : Expr} {gs : List Comprehension} {scope : Scope} {pos py : Pos} {y : Str} {l : Nat} {env : Env} (hk : env.scope.kind = .function) (hy : env.scope.names.lookup y = some .local) (hl : (py.line == pos.line) = true)
    (ha : (scope.names.any fun (n, k) => n == y && (k == .local || k == .cell)) = false) : swapsWith (.DictComp kx vx gs scope pos) (some (.Name y py)) l env = pure true := by
  have k1 : env.kindOf y = some .local := hy
  have k2 : env.blockKind = .function := by unfold Env.blockKind; rw [hk]; rfl
  unfold swapsWith
  simp only [k2, k1, ha, Expr.pos, hl]
  rfl
theorem ps_setDc {i : Nat} {y : Str} {py pos spos : Pos} {kx vx tg iter : Expr} {ifs : List Expr} {scope : Scope} {own : List (Str × Nat)} {wi : TI} {g : TG} {tt : TT} {tk tv : TE} (hc : X.calm = true) (hN : X.N.Nodup) (hy : X.N[i]? = some y) (hyl : X.env.scope.names.lookup y = some .local)
    (hsw : swapsWith (.DictComp kx vx [⟨tg, iter, ifs, 0⟩] scope pos) (some (.Name y py)) spos.line X.env = pure true) (hi : PI X tg iter wi) (ok : BlkOk X.N X.env.scope scope own)
    (hg : ∀ (s : Shared) (H : Hp) (C : Addr) (cl : List (Str × Addr)) (fp : List Addr), PG (X.blk s H scope (compEnvC scope cl C X.env) fp) tg g) (ht : ∀ (s : Shared) (H : Hp) (C : Addr) (cl : List (Str × Addr)) (fp : List Addr), PTs (X.blk s H scope (compEnvC scope cl C X.env) fp) ifs tt)
    (hk : ∀ (s : Shared) (H : Hp) (C : Addr) (cl : List (Str × Addr)) (fp : List Addr), PE (X.blk s H scope (compEnvC scope cl C X.env) fp) kx tk) (he : ∀ (s : Shared) (H : Hp) (C : Addr) (cl : List (Str × Addr)) (fp : List Addr), PE (X.blk s H scope (compEnvC scope cl C X.env) fp) vx tv) (hs : ∀ x, foldedSetIterable iter X.env x = pure x) :
    PS X (.Assign [.Name y py] (.DictComp kx vx [⟨tg, iter, ifs, 0⟩] scope pos) spos) (tAsg (tDc wi g tt tk tv (own.map (·.2))) (gName i)) := by
  refine ⟨fun pins s σ H D I h0 => ?_⟩
  rw [exec_Assign_Name_used _ _ _ _ hsw]
  refine wpAny_bind (wpAny_standAt (wpAny_bind ?_))
  show wpAny _ X.A (do let _ ← comprehension (.DictComp kx vx [⟨tg, iter, ifs, 0⟩] scope pos) scope X.env (firstIterPos [⟨tg, iter, ifs, 0⟩] pos) newDict false (eval iter X.env) (some (assign (.Name y py) X.env))) _ _ s
  have h1 : tDc wi g tt tk tv (own.map (·.2)) σ H (fun x H1 => gName i x σ H1 D.nx) := h0
  refine wpAny_bind (thn (dc_core (Qf := fun _ s' => SP X pins D .next s') hc hN I hi ok hg ht hk he hs h1 fun L C s' m H' I' q hn f => ?_) fun _ s' hq => wpAny_pure (wpAny_pure hq))
  obtain ⟨f0, f1, f2, f3, f4, f5⟩ := f
  refine wpAny_assign_Name (store_ok2 (v := V.ref L) I' hN hy (.inl hyl) rfl (fun s2 I2 ⟨a, sb, ha⟩ => ?_) (.inr hyl))
  have ne : C ≠ a := ha.elim (fun z => by rw [z]; exact f1) fun z e => f4 y a z e.symm
  exact ⟨m, hn.sameBut sb ne, fun h3 sb3 => ⟨_, H', I2.turned (t' := s2.toks) (fun b o hb e => (sb3.2 b hb).trans e) f0 f1 f3 f4 f5, q⟩⟩
variable {kx vx tg iter : Expr} {ifs : List Expr} {scope : Scope} {own : List (Str × Nat)} {sl : List Nat} {pos : Pos} {ti : DTI} {gd : DTG} {tt : DTT} {tk te : DTE} {fin : List (Key × D) → W → DK → Prop}
theorem ds_setDcG (hfin : FinDOk X.K fin) {i : Nat} {y : Str} {py spos : Pos} (hc : X.calm = true) (hN : X.N.Nodup) (hi : DI X Wv tg iter ti) (ok : blkC X.N X.env.scope scope own = true)
    (hg : ∀ (s : Shared) (H : Hp) (C : Addr) (cl : List (Str × Addr)) (fp : List Addr), DG (X.blk s H scope (compEnvC scope cl C X.env) fp) W0 tg sl gd)
    (ht : ∀ (s : Shared) (H : Hp) (C : Addr) (cl : List (Str × Addr)) (fp : List Addr), DTs (X.blk s H scope (compEnvC scope cl C X.env) fp) W0 ifs tt)
    (hk : ∀ (s : Shared) (H : Hp) (C : Addr) (cl : List (Str × Addr)) (fp : List Addr), DE (X.blk s H scope (compEnvC scope cl C X.env) fp) W0 kx tk)
    (he : ∀ (s : Shared) (H : Hp) (C : Addr) (cl : List (Str × Addr)) (fp : List Addr), DE (X.blk s H scope (compEnvC scope cl C X.env) fp) W0 vx te)
    (hy : X.N[i]? = some y := by rfl) (hyl : X.env.scope.names.lookup y = some .local := by rfl) (hsw : swapsWith (.DictComp kx vx [⟨tg, iter, ifs, 0⟩] scope pos) (some (.Name y py)) spos.line X.env = pure true := by exact sw_trueD rfl rfl rfl (by decide +kernel))
    (hsl : (sl.all fun i => (own.map (·.2)).contains i) = true := by rfl) (hs : ∀ x, foldedSetIterable iter X.env x = pure x := by intro _; rfl) :
    DS X Wv (.Assign [.Name y py] (.DictComp kx vx [⟨tg, iter, ifs, 0⟩] scope pos) spos) (dSet i (dDcG fin ti gd tt tk te (own.map (·.2)))) :=
  ⟨PS_imp (ps_unl (ps_setDc hc hN hy hyl hsw hi.pi (blkOk_by ok) (fun s H C cl fp => (hg s H C cl fp).pg) (fun s H C cl fp => (ht s H C cl fp).pts) (fun s H C cl fp => (hk s H C cl fp).pe) (fun s H C cl fp => (he s H C cl fp).pe) hs)) fun Dv σ H ⟨c, g, env, w, D, B, q, k⟩ =>
    dc_lift hfin (fun i hi => by simpa using List.all_eq_true.mp hsl i hi) ⟨c, g, env, w, _, B, q, fun v H1 ⟨g1, w1, d, l1, R1, r1, q1⟩ => k.nx _ w1 _ H1 g1 l1 ((B.step l1 R1).env ((B.E.le l1).set r1)) q1⟩⟩
end
/-! ### a, b = x, y -/
def dPar (i j : Nat) (t : DTA) : DTS := fun D env w => t env w fun xs w1 => match xs with
  | [a, b] => D.nx ((env.set i (some a)).set j (some b)) w1
  | _ => False
def dPar3 (i j l : Nat) (t : DTA) : DTS := fun D env w => t env w fun xs w1 => match xs with
  | [a, b, c] => D.nx (((env.set i (some a)).set j (some b)).set l (some c)) w1
  | _ => False
section
variable {X : Cx} {Wv : WX} {i j l : Nat} {x y z : Str} {a b c : Expr} {t : DTA} {px py pz pt pos : Pos} {kt k2 : Nat} {pt2 : Pos}
theorem ds_par (hN : X.N.Nodup) (hc : X.calm = true) (hij : i ≠ j) (ha : DA X Wv [a, b] t) (hi : X.N[i]? = some x := by rfl) (hj : X.N[j]? = some y := by rfl)
    (hx : X.env.scope.names.lookup x = some .local := by rfl) (hy : X.env.scope.names.lookup y = some .local := by rfl)
    (hw : swappedStores [.Tuple [.Name x px, .Name y py] kt pt] (.Tuple [a, b] k2 pt2) X.env = pure (some [x, y]) := by rfl)
    (hs : swapsWithSole [.Tuple [.Name x px, .Name y py] kt pt] (.Tuple [a, b] k2 pt2) pos.line X.env = pure false := by rfl) :
    DS X Wv (.Assign [.Tuple [.Name x px, .Name y py] kt pt] (.Tuple [a, b] k2 pt2) pos) (dPar i j t) :=
  ⟨PS_imp (ps_par hc hN hi hj hij hx hy ha.pa hw hs) fun Dv σ H ⟨c, g, env, w, D, B, q, k⟩ => bindA B q fun vs H1 g1 w1 xs l1 B1 r1 q1 => by
    match xs, r1, q1 with
    | [d1, d2], r1, q1 =>
      obtain ⟨v1, v2, rfl, a1, a2⟩ := r1.two
      exact ⟨v1, v2, rfl, k.nx _ w1 _ H1 g1 l1 (B1.env ((B1.E.set a1).set a2)) q1⟩⟩
theorem ds_par3 (hN : X.N.Nodup) (hc : X.calm = true) (hij : i ≠ j) (hil : i ≠ l) (hjl : j ≠ l) (ha : DA X Wv [a, b, c] t) (hi : X.N[i]? = some x := by rfl) (hj : X.N[j]? = some y := by rfl) (hl : X.N[l]? = some z := by rfl)
    (hx : X.env.scope.names.lookup x = some .local := by rfl) (hy : X.env.scope.names.lookup y = some .local := by rfl) (hz : X.env.scope.names.lookup z = some .local := by rfl)
    (hw : swappedStores [.Tuple [.Name x px, .Name y py, .Name z pz] kt pt] (.Tuple [a, b, c] k2 pt2) X.env = pure (some [x, y, z]) := by rfl)
    (hs : swapsWithSole [.Tuple [.Name x px, .Name y py, .Name z pz] kt pt] (.Tuple [a, b, c] k2 pt2) pos.line X.env = pure false := by rfl) :
    DS X Wv (.Assign [.Tuple [.Name x px, .Name y py, .Name z pz] kt pt] (.Tuple [a, b, c] k2 pt2) pos) (dPar3 i j l t) :=
  ⟨PS_imp (ps_par3 hc hN hi hj hl hij hil hjl hx hy hz ha.pa hw hs) fun Dv σ H ⟨c, g, env, w, D, B, q, k⟩ => bindA B q fun vs H1 g1 w1 xs l1 B1 r1 q1 => by
    match xs, r1, q1 with
    | [d1, d2, d3], .cons a1 (.cons a2 (.cons a3 .nil)), q1 => exact ⟨_, _, _, rfl, k.nx _ w1 _ H1 g1 l1 (B1.env (((B1.E.set a1).set a2).set a3)) q1⟩⟩
end
end DL

/-! DLm: small words for the readings. -/
/-! DLzd: readings of dict comprehensions. -/
namespace DL
open PySem PySem.Spec PyProof.Rows L2
theorem putD_new {κ : Type} [DecidableEq κ] {kvs : List (κ × D)} {k : κ} {v : D} (h : ∀ kv ∈ kvs, kv.1 ≠ k) : putD kvs k v = kvs ++ [(k, v)] := by
  unfold putD
  rw [if_neg]
  intro e
  obtain ⟨kv, hm, e⟩ := List.any_eq_true.mp e
  exact h kv hm (of_decide_eq_true e)
theorem valD_mem {κ : Type} [DecidableEq κ] {kvs : List (κ × D)} {k : κ} {v : D} (h : (k, v) ∈ kvs) : ∃ d, valD kvs k = some d := by
  unfold valD
  cases e : kvs.find? fun kv => decide (kv.1 = k) with
  | some q => exact ⟨_, rfl⟩
  | none => exact absurd (List.find?_eq_none.mp e (k, v) h) (by simp)
theorem valD_in {κ : Type} [DecidableEq κ] {kvs : List (κ × D)} {k : κ} {v : D} (h : valD kvs k = some v) : (k, v) ∈ kvs := by
  unfold valD at h
  cases e : kvs.find? fun kv => decide (kv.1 = k) with
  | none => rw [e] at h; cases h
  | some q =>
    rw [e] at h; cases h
    have m := List.mem_of_find?_eq_some e
    have p : q.1 = k := by simpa using List.find?_some e
    obtain ⟨a, b⟩ := q
    subst p
    exact m
section
variable {items : List D} {gd : DTG} {tt : DTT} {tk te : DTE} {vs : List Nat} {env : En} {w : W} {Q : DK} {fin : List (Key × D) → W → DK → Prop}
/-- {k x: v x for x in items}, no key twice -/
theorem dc_map (kf : D → Key) (vf : D → D) (hz : items.length ≤ sizeLine) (hn : (items.map kf).Nodup)
    (h : ∀ x, x ∈ items → ∀ R : Key → D → W → Prop, R (kf x) (vf x) w.mute → gd x (wipeD env vs) w.mute fun env2 w3 => tk env2 w3 fun y w5 => te env2 w5 fun z w6 => ∃ k, keyOf y = some k ∧ R k z w6) (hf : fin (items.map fun x => (kf x, vf x)) w Q) :
    items.length ≤ sizeLine ∧ ∃ Pv : Nat → List (Key × D) → W → Prop, Pv 0 [] w ∧
      (∀ i x acc w2, items[i]? = some x → acc.length ≤ i → Pv i acc w2 → gd x (wipeD env vs) w2.mute fun env2 w3 => dYes env2 w3 fun b w4 => if b = true then tk env2 w4 fun y w5 => te env2 w5 fun z w6 => ∃ k, keyOf y = some k ∧ Pv (i + 1) (putD acc k z) (w6.as w) else Pv (i + 1) acc (w4.as w)) ∧
      ∀ acc w2, Pv items.length acc w2 → fin acc w2 Q := by
  refine ⟨hz, fun i acc w2 => w2 = w ∧ acc = (items.take i).map fun x => (kf x, vf x), ⟨rfl, rfl⟩, ?_, ?_⟩
  · rintro i x acc w2 hx _ ⟨rfl, rfl⟩
    refine h x (List.mem_of_getElem? hx) (fun k z w6 => w6.as w2 = w2 ∧ putD ((items.take i).map fun x => (kf x, vf x)) k z = (items.take (i + 1)).map fun x => (kf x, vf x)) ⟨rfl, ?_⟩
    rw [putD_new, List.take_succ, hx]
    · simp
    · intro kv hm e
      obtain ⟨y, hy, rfl⟩ := List.mem_map.mp hm
      obtain ⟨j, hj, ej⟩ := List.mem_take_iff_getElem.mp hy
      have hi : i < items.length := (List.getElem?_eq_some_iff.mp hx).1
      have ex : items[i] = x := (List.getElem?_eq_some_iff.mp hx).2
      have hji : j < i := by omega
      have q := List.pairwise_iff_getElem.mp hn j i (by simpa using by omega) (by simpa using hi) hji
      apply q
      simp only [List.getElem_map]
      rw [ej, ex]
      exact e
  · rintro acc w2 ⟨rfl, rfl⟩
    rw [List.take_length]
    exact hf
end
end DL

/-! DLze: == of data with dicts within. -/
namespace DL
open PySem PySem.Spec PyProof.Rows L2
section
open PySem.SeqAt
open AutoSeq1 (wpAny_loadPart')
open MeetsSeq MeetsSeq2 MeetsSeq3 SeqRoads2
variable {prog : Program} {w : World} {A : Around} {s : Shared}
/-- tuple.__eq__ of two tuples of one length -/
theorem tupB {R : Result → Shared → Prop} {p q : Addr} {us vs : Array Value} {k1 k2 : Nat} {da db : Option Addr} {la lb : Array (Option Value)} {e : Nat → Bool} (z : us.size = vs.size)
    (hp : s.heap.get? p = some { cls := .type "tuple", dict := da, data := .seq us k1, slots := la }) (hq : s.heap.get? q = some { cls := .type "tuple", dict := db, data := .seq vs k2, slots := lb })
    (he : ∀ j (h1 : j < us.size) (h2 : j < vs.size), EqP prog w A.in1 s us[j] vs[j] (e j)) (hR : R (.ok (.ret (.bool ((List.range us.size).all e)))) s) :
    wpAny (model prog w) A.in1 (Builtin.«tuple.__eq__» ⟨[.ref p, .ref q], []⟩) (GQ.FinOf prog w A R) (fun x s' => R (.error x) s') s := by
  have known := AutoSeq1.sub_tuple_tuple
  obtain ⟨hh, gg, dd, tk, oo⟩ := s
  have zl : (us.toList.zip vs.toList).length = us.size := by simp [z]
  wp_walk using wpAny_loadPart' hp, wpAny_loadPart' hq, wpAny_forIn_list _ (fun rest y t => y.1 = none ∧ t = ⟨hh, gg, dd, tk, oo⟩ ∧ ∃ i, i ≤ us.size ∧ rest = (us.toList.zip vs.toList).drop i ∧
    R (.ok (.ret (.bool (((List.range us.size).drop i).all e)))) ⟨hh, gg, dd, tk, oo⟩) _
  case turn =>
    rintro ⟨u, v⟩ rest y t ⟨_, rfl, i, _, hd, hr⟩
    have lt : i < (us.toList.zip vs.toList).length := Nat.lt_of_not_le fun c => by
      rw [List.drop_of_length_le c] at hd
      cases hd
    have lu : i < us.size := zl ▸ lt
    have lv : i < vs.size := z ▸ lu
    rw [List.drop_eq_getElem_cons lt] at hd
    obtain ⟨h1, h2⟩ := List.cons.inj hd
    obtain rfl : u = us[i] := by have := congrArg Prod.fst h1; simpa using this
    obtain rfl : v = vs[i] := by have := congrArg Prod.snd h1; simpa using this
    have split : (List.range us.size).drop i = i :: (List.range us.size).drop (i + 1) := by
      rw [List.drop_eq_getElem_cons (by simpa using lu)]
      simp
    rw [split, List.all_cons] at hr
    refine wpAny_bind (he i lu lv _ _ ?_)
    cases c : e i with
    | false =>
      rw [c] at hr
      wp_walk
      simpa using hr
    | true =>
      rw [c] at hr
      wp_walk
      exact ⟨rfl, rfl, i + 1, lu, h2, by simpa using hr⟩
  case fin =>
    rintro ⟨y1, y2⟩ t ⟨hy, rfl, i, _, hd, hr⟩
    simp only at hy
    subst hy
    have ge : us.size ≤ i := Nat.le_of_not_lt fun c => by
      rw [List.drop_eq_getElem_cons (zl.symm ▸ c)] at hd
      cases hd
    rw [List.drop_of_length_le (by simpa using ge)] at hr
    wp_walk
    simpa [Builtin.Tuple.tupleCompareSizes, z] using hr
  case h => exact ⟨rfl, rfl, 0, Nat.zero_le _, rfl, by simpa using hR⟩
theorem rc_tupB {p q : Addr} {us vs : Array Value} {e : Nat → Bool} (z : us.size = vs.size) (hu : A.units < cLine) (hp : s.heap.IsTuple p us) (hq : s.heap.IsTuple q vs)
    (he : ∀ j (h1 : j < us.size) (h2 : j < vs.size), EqP prog w A.in1 s us[j] vs[j] (e j)) (E Q : Value → Shared → Prop) (h : Q (.bool ((List.range us.size).all e)) s) : wpAny (model prog w) A (richCompare .Eq (.ref p) (.ref q)) Q E s := by
  obtain ⟨⟨c1, d1, x1, l1⟩, o1, k1, n1, e1⟩ := id hp
  obtain ⟨⟨c2, d2, x2, l2⟩, o2, k2, n2, e2⟩ := id hq
  simp only at k1 e1 k2 e2
  subst k1 e1 k2 e2
  refine wpAny_richCompare_same_room (op := .Eq) ⟨_, o1, rfl⟩ ⟨_, o2, rfl⟩ F.slot_tuple_eq (GQ.call_here F.slot_tuple_eq ⟨_, o1, rfl⟩ F.entry_tuple_eq (F.args_tuple_eq_2 _ _) ?_) hu
  exact tupB (R := wants (fun v s' => v ≠ .notImplemented ∧ Q v s') E) z o1 o2 he ⟨(fun c => nomatch c), h⟩
end
/-! data is told by its plain form -/
mutual
theorem toPy_inj : ∀ {x y : D} {p : PyData}, toPy x = some p → toPy y = some p → x = y
  | .non, y, p, hx, hy => by
    simp only [toPy, Option.some.injEq] at hx; subst hx
    cases y <;> simp [toPy] at hy ⊢
  | .bl b, y, p, hx, hy => by
    simp only [toPy, Option.some.injEq] at hx; subst hx
    cases y <;> simp [toPy] at hy ⊢ <;> exact hy.symm
  | .int b, y, p, hx, hy => by
    simp only [toPy, Option.some.injEq] at hx; subst hx
    cases y <;> simp [toPy] at hy ⊢ <;> exact hy.symm
  | .str b, y, p, hx, hy => by
    simp only [toPy, Option.some.injEq] at hx; subst hx
    cases y <;> simp [toPy] at hy ⊢ <;> exact hy.symm
  | .lst xs, y, p, hx, hy => by
    simp only [toPy, Option.map_eq_some_iff] at hx
    obtain ⟨ps, e, rfl⟩ := hx
    cases y <;> simp [toPy] at hy ⊢
    exact toPyL_inj e hy
  | .tup xs, y, p, hx, hy => by
    simp only [toPy, Option.map_eq_some_iff] at hx
    obtain ⟨ps, e, rfl⟩ := hx
    cases y <;> simp [toPy] at hy ⊢
    exact toPyL_inj e hy
  | .dic xs, y, p, hx, hy => by
    simp only [toPy, Option.map_eq_some_iff] at hx
    obtain ⟨ps, e, rfl⟩ := hx
    cases y <;> simp [toPy] at hy ⊢
    exact toPyK_inj e hy
  | .ty _, y, p, hx, hy => by simp [toPy] at hx
  | .obj _ _, y, p, hx, hy => by simp [toPy] at hx
  | .ref _, y, p, hx, hy => by simp [toPy] at hx
  | .pen, y, p, hx, hy => by simp [toPy] at hx
  | .exc _ _, y, p, hx, hy => by simp [toPy] at hx
theorem toPyL_inj : ∀ {xs ys : List D} {ps : List PyData}, toPyL xs = some ps → toPyL ys = some ps → xs = ys
  | [], ys, ps, hx, hy => by
    simp only [toPyL, Option.some.injEq] at hx; subst hx
    cases ys with
    | nil => rfl
    | cons y r => simp [toPyL, Option.bind_eq_some_iff] at hy
  | x :: r, ys, ps, hx, hy => by
    simp only [toPyL, Option.bind_eq_some_iff, Option.map_eq_some_iff] at hx
    obtain ⟨d, e1, ds, e2, rfl⟩ := hx
    cases ys with
    | nil => simp [toPyL] at hy
    | cons y r' =>
      simp only [toPyL, Option.bind_eq_some_iff, Option.map_eq_some_iff] at hy
      obtain ⟨d', e1', ds', e2', e3⟩ := hy
      obtain ⟨rfl, rfl⟩ := List.cons.inj e3
      rw [toPy_inj e1 e1', toPyL_inj e2 e2']
theorem toPyK_inj : ∀ {xs ys : List (Key × D)} {ps : List (PyData × PyData)}, toPyK xs = some ps → toPyK ys = some ps → xs = ys
  | [], ys, ps, hx, hy => by
    simp only [toPyK, Option.some.injEq] at hx; subst hx
    cases ys with
    | nil => rfl
    | cons y r => simp [toPyK, Option.bind_eq_some_iff] at hy
  | (k, x) :: r, ys, ps, hx, hy => by
    simp only [toPyK, Option.bind_eq_some_iff, Option.map_eq_some_iff] at hx
    obtain ⟨d, e1, ds, e2, rfl⟩ := hx
    cases ys with
    | nil => simp [toPyK] at hy
    | cons y r' =>
      obtain ⟨k', y⟩ := y
      simp only [toPyK, Option.bind_eq_some_iff, Option.map_eq_some_iff] at hy
      obtain ⟨d', e1', ds', e2', e3⟩ := hy
      obtain ⟨e4, rfl⟩ := List.cons.inj e3
      have e5 := congrArg Prod.snd e4
      simp only at e5
      subst e5
      have e6 : k = k' := by
        have := congrArg Prod.fst e4
        cases k <;> cases k' <;> simp at this <;> rw [this]
      rw [toPy_inj e1 e1', toPyK_inj e2 e2', e6]
end
mutual
/-- x == y gives b; n: how deep -/
inductive EqW : Nat → D → D → Bool → Prop
  | dat {n : Nat} {x y : D} {d e : PyData} : toPy x = some d → toPy y = some e → SeqAt.shaped d = true → SeqAt.shaped e = true → EqW n x y (PyData.eqv d e)
  | tup {n : Nat} {xs ys : List D} {b : Bool} : EqWL n xs ys b → (xs = ys → b = true) → (toPy (.tup xs)).isSome = true → (toPy (.tup ys)).isSome = true → EqW (n + 1) (.tup xs) (.tup ys) b
  | dic {n : Nat} {ks ls : List (Key × D)} {b : Bool} : (ks.length = ls.length → EqWK n ls ks b) → (ks = ls → b = true) → (toPy (.dic ks)).isSome = true → (toPy (.dic ls)).isSome = true → EqW (n + 1) (.dic ks) (.dic ls) (ks.length == ls.length && b)
inductive EqWL : Nat → List D → List D → Bool → Prop
  | nil {n : Nat} : EqWL n [] [] true
  | cons {n : Nat} {x y : D} {xs ys : List D} {e b : Bool} : EqW n x y e → EqWL n xs ys b → EqWL n (x :: xs) (y :: ys) (e && b)
inductive EqWK : Nat → List (Key × D) → List (Key × D) → Bool → Prop
  | nil {n : Nat} {ls : List (Key × D)} : EqWK n ls [] true
  | miss {n : Nat} {ls r : List (Key × D)} {k : Key} {v : D} : valD ls k = none → EqWK n ls ((k, v) :: r) false
  | hit {n : Nat} {ls r : List (Key × D)} {k : Key} {v y : D} {e b : Bool} : valD ls k = some y → EqW n v y e → EqWK n ls r b → EqWK n ls ((k, v) :: r) (e && b)
end
section
variable {X : Cx} {pins : List (Addr × Obj)} {σ : St} {H : Hp} {s : Shared} {c : Ck} {g : Gh} {w : W}
theorem rep_same (I : Inv X pins σ H s) (R : Rel X.K c g w H) {a : Addr} {x y : D} (r1 : Rep X.K g (.ref a) x) (r2 : Rep X.K g (.ref a) y) (h1 : (toPy x).isSome = true) (h2 : (toPy y).isSome = true) : x = y := by
  obtain ⟨p, e1⟩ := Option.isSome_iff_exists.mp h1
  obtain ⟨q, e2⟩ := Option.isSome_iff_exists.mp h2
  obtain ⟨as, k1, _⟩ := Rep.reads I R r1 e1 (show RelV (.ref a) (.ref a) from rfl)
  obtain ⟨bs, k2, _⟩ := Rep.reads I R r2 e2 (show RelV (.ref a) (.ref a) from rfl)
  obtain ⟨rfl, _⟩ := PySem.Reads.unique k1 _ _ k2
  exact toPy_inj e1 e2
mutual
theorem EqW.run (I : Inv X pins σ H s) (R : Rel X.K c g w H) : ∀ {n : Nat} {x y : D} {b : Bool}, EqW n x y b → ∀ (A : Around) (v u : V) (v' u' : Value), A.units + n + 64 < cLine → Rep X.K g v x → Rep X.K g u y → RelV v v' → RelV u u' → SeqAt.EqP X.prog X.w A s v' u' b
  | n, _, _, _, .dat (d := d) (e := e) h1 h2 h3 h4, A, v, u, v', u', hu, r1, r2, q1, q2 => by
    obtain ⟨as, k1, _⟩ := Rep.reads I R r1 h1 q1
    obtain ⟨bs, k2, _⟩ := Rep.reads I R r2 h2 q2
    exact (SeqAt.eqAt_reads d e A s v' u' as bs k1 k2 (SeqAt.canLay_of_shaped h3) (SeqAt.canLay_of_shaped h4) (SeqAt.room_of_shaped h3 (by omega))).eqP
  | n + 1, _, _, _, .tup hl hs i1 i2, A, v, u, v', u', hu, r1, r2, q1, q2 => by
    have r1' := r1
    have r2' := r2
    cases r1 with
    | @tup a xs ds s1 t1 =>
    cases r2 with
    | @tup b ys es s2 t2 =>
    cases (show v' = Value.ref a from q1)
    cases (show u' = Value.ref b from q2)
    by_cases hab : a = b
    · subst hab
      have e := rep_same I R r1' r2' i1 i2
      rw [hs (by cases e; rfl)]
      exact (SeqAt.EqAt.same _).eqP
    · refine SeqAt.eqP_refs hab fun E Q q => ?_
      obtain ⟨us, k1, p1, _⟩ := I.tuple (R.sqT s1)
      obtain ⟨ws, k2, p2, _⟩ := I.tuple (R.sqT s2)
      obtain ⟨e, he, hb⟩ := EqWL.run I R hl A.in1 (by show A.units + 1 + n + 64 < cLine; omega) t1 t2 k1 k2
      have lz : us.toArray.size = ws.toArray.size := by
        rw [List.size_toArray, List.size_toArray, he.1]
      refine rc_tupB (e := e) lz (by omega) p1 p2 (fun j h1 h2 => ?_) E Q ?_
      · have := he.2 j (by simpa using h1) (by simpa using h2)
        simpa using this
      · rw [List.size_toArray, hb]
        exact q
  | n + 1, _, _, _, .dic (ks := ds) (ls := es) hl hs i1 i2, A, v, u, v', u', hu, r1, r2, q1, q2 => by
    have r1' := r1
    have r2' := r2
    cases r1 with
    | @dic a xs _ s1 t1 =>
    cases r2 with
    | @dic b ys _ s2 t2 =>
    cases (show v' = Value.ref a from q1)
    cases (show u' = Value.ref b from q2)
    by_cases hab : a = b
    · subst hab
      have e := rep_same I R r1' r2' i1 i2
      have e2 : ds = es := by cases e; rfl
      rw [hs e2, e2]
      simp only [beq_self_eq_true, Bool.and_self]
      exact (SeqAt.EqAt.same _).eqP
    · refine SeqAt.eqP_refs hab fun E Q q => ?_
      obtain ⟨_, ya, va, ra, da⟩ := dk_rd I.hok (R.rdic s1)
      obtain ⟨_, yb, vb, rb, db⟩ := dk_rd I.hok (R.rdic s2)
      have l1 : va.length = ds.length := by rw [← ra.length, t1.length]
      have l2 : vb.length = es.length := by rw [← rb.length, t2.length]
      refine PySem.W.rcP_dicts (knd := mixKind X.prog X.w) ya yb da db (by omega) (fun hz => EqWK.run I R (hl (by rw [← l1, ← l2]; exact hz)) A.in1 (by show A.units + 1 + n + 64 < cLine; omega) t2 rb t1 ra) E Q ?_
      rw [l1, l2]
      exact q
theorem EqWL.run (I : Inv X pins σ H s) (R : Rel X.K c g w H) : ∀ {n : Nat} {xs ys : List D} {b : Bool}, EqWL n xs ys b → ∀ (A : Around), A.units + n + 64 < cLine → ∀ {vs us : List V} {vs' us' : List Value}, RepL X.K g vs xs → RepL X.K g us ys → Vals vs vs' → Vals us us' →
    ∃ e : Nat → Bool, (vs'.length = us'.length ∧ ∀ j (h1 : j < vs'.length) (h2 : j < us'.length), SeqAt.EqP X.prog X.w A s vs'[j] us'[j] (e j)) ∧ (List.range vs'.length).all e = b
  | n, _, _, _, .nil, A, hu, _, _, _, _, .nil, .nil, q1, q2 => by
    cases q1; cases q2
    exact ⟨fun _ => true, ⟨rfl, fun j h1 _ => absurd h1 (Nat.not_lt_zero j)⟩, rfl⟩
  | n, _, _, _, .cons (e := e) (b := b) h hl, A, hu, _, _, _, _, .cons a1 b1, .cons a2 b2, q1, q2 => by
    cases q1 with
    | cons m1 n1 =>
    cases q2 with
    | cons m2 n2 =>
    obtain ⟨f, ⟨e1, e2⟩, e3⟩ := EqWL.run I R hl A hu b1 b2 n1 n2
    refine ⟨fun j => match j with | 0 => e | j + 1 => f j, ⟨by simp [e1], fun j h1 h2 => ?_⟩, ?_⟩
    · cases j with
      | zero => exact EqW.run I R h A _ _ _ _ hu a1 a2 m1 m2
      | succ j => exact e2 j (Nat.lt_of_succ_lt_succ h1) (Nat.lt_of_succ_lt_succ h2)
    · rw [List.length_cons, List.range_succ_eq_map, List.all_cons, List.all_map]
      show (e && (List.range _).all f) = _
      rw [e3]
theorem EqWK.run (I : Inv X pins σ H s) (R : Rel X.K c g w H) : ∀ {n : Nat} {ls ks : List (Key × D)} {b : Bool}, EqWK n ls ks b → ∀ (A : Around), A.units + n + 64 < cLine → ∀ {ys : List (Key × V)} {vb : List (Key × Value)}, RepK X.K g ys ls → KV ys vb → ∀ {xs : List (Key × V)} {va : List (Key × Value)}, RepK X.K g xs ks → KV xs va →
    PySem.W.KeqHitsP X.prog X.w A s vb va b
  | n, _, _, _, .nil, A, hu, ys, vb, r2, q2, _, va, .nil, q1 => by
    cases q1
    exact .nil
  | n, _, _, _, .miss (k := k) h, A, hu, ys, vb, r2, q2, _, va, .cons a1 b1, q1 => by
    cases q1 with
    | @cons p q ps qs m1 n1 =>
    obtain ⟨k', v'⟩ := q
    obtain ⟨e1, m2⟩ := m1
    have e1 : k = k' := e1
    subst e1
    refine .miss ?_
    have z := q2.val k
    rcases r2.val k with ⟨z1, _⟩ | ⟨_, _, _, z2, _⟩
    · rw [z1] at z
      cases hv : valueAt vb k with
      | none => rfl
      | some u => rw [hv] at z; exact z.elim
    · rw [h] at z2; cases z2
  | n, _, _, _, .hit (k := k) (y := y) h h2 hr, A, hu, ys, vb, r2, q2, _, va, .cons a1 b1, q1 => by
    cases q1 with
    | @cons p q ps qs m1 n1 =>
    obtain ⟨k', v'⟩ := q
    obtain ⟨e1, m2⟩ := m1
    have e1 : k = k' := e1
    subst e1
    have z := q2.val k
    rcases r2.val k with ⟨_, z2⟩ | ⟨x, d, z1, z2, z3⟩
    · rw [h] at z2; cases z2
    · rw [h] at z2; cases z2
      rw [z1] at z
      obtain ⟨u, hv, ru⟩ := RelO.some_of z
      exact .hit hv (EqW.run I R h2 A _ _ _ _ hu a1 z3 m2 ru) (EqWK.run I R hr A hu r2 q2 b1 n1)
end
end
/-- x == y, by EqW, of two tuples or two dicts -/
def rcW (x y : D) : Prop := match x, y with
  | .tup _, .tup _ => True
  | .dic _, .dic _ => True
  | _, _ => False
def eqW : DR2 := fun x y w Q => rcW x y ∧ ∃ n b, n ≤ 60 ∧ EqW n x y b ∧ Q (.bl b) w
end DL

/-! DLzf: == of data with dicts; isinstance of own classes; == and != by an own __eq__. -/
namespace DL
open PySem PySem.Spec PyProof.Rows L2
section
variable {X : Cx} {pins : List (Addr × Obj)} {σ : St} {H : Hp} {s : Shared} {c : Ck} {g : Gh} {w : W}
theorem EqW.rc (I : Inv X pins σ H s) (R : Rel X.K c g w H) {n : Nat} {x y : D} {b : Bool} (h : EqW n x y b) (hc : rcW x y) {A : Around} {v u : V} {v' u' : Value} (hu : A.units + n + 64 < cLine) (r1 : Rep X.K g v x) (r2 : Rep X.K g u y) (q1 : RelV v v') (q2 : RelV u u')
    (E Q : Value → Shared → Prop) (q : Q (.bool b) s) : wpAny (model X.prog X.w) A (richCompare .Eq v' u') Q E s := by
  cases h with
  | @dat _ _ _ d e h1 h2 h3 h4 =>
    obtain ⟨as, k1, _⟩ := Rep.reads I R r1 h1 q1
    obtain ⟨bs, k2, _⟩ := Rep.reads I R r2 h2 q2
    exact SeqAt.compareEq_shaped k1 k2 h3 h4 (by omega) q
  | @tup n xs ys _ hl hs i1 i2 =>
    cases r1 with
    | @tup a xs _ s1 t1 =>
    cases r2 with
    | @tup b ys _ s2 t2 =>
    cases (show v' = Value.ref a from q1)
    cases (show u' = Value.ref b from q2)
    obtain ⟨us, k1, p1, _⟩ := I.tuple (R.sqT s1)
    obtain ⟨ws, k2, p2, _⟩ := I.tuple (R.sqT s2)
    obtain ⟨e, he, hb⟩ := EqWL.run I R hl A.in1 (by show A.units + 1 + n + 64 < cLine; omega) t1 t2 k1 k2
    have lz : us.toArray.size = ws.toArray.size := by
      rw [List.size_toArray, List.size_toArray, he.1]
    refine rc_tupB (e := e) lz (by omega) p1 p2 (fun j h1 h2 => ?_) E Q ?_
    · have := he.2 j (by simpa using h1) (by simpa using h2)
      simpa using this
    · rw [List.size_toArray, hb]
      exact q
  | @dic n ds es _ hl hs i1 i2 =>
    cases r1 with
    | @dic a xs _ s1 t1 =>
    cases r2 with
    | @dic b ys _ s2 t2 =>
    cases (show v' = Value.ref a from q1)
    cases (show u' = Value.ref b from q2)
    obtain ⟨_, ya, va, ra, da⟩ := dk_rd I.hok (R.rdic s1)
    obtain ⟨_, yb, vb, rb, db⟩ := dk_rd I.hok (R.rdic s2)
    have l1 : va.length = ds.length := by rw [← ra.length, t1.length]
    have l2 : vb.length = es.length := by rw [← rb.length, t2.length]
    refine PySem.W.rcP_dicts (knd := mixKind X.prog X.w) ya yb da db (by omega) (fun hz => EqWK.run I R (hl (by rw [← l1, ← l2]; exact hz)) A.in1 (by show A.units + 1 + n + 64 < cLine; omega) t2 rb t1 ra) E Q ?_
    rw [l1, l2]
    exact q
end
theorem DE_imp {X : Cx} {Wv : WX} {e : Expr} {t t' : DTE} (h : DE X Wv e t) (i : ∀ env w Q, t' env w Q → t env w Q) : DE X Wv e t' :=
  ⟨PE_imp h.pe fun σ H Qv ⟨c, g, env, w, Q, B, q, k⟩ => ⟨c, g, env, w, Q, B, i _ _ _ q, k⟩⟩
/-- x == y of two tuples or two dicts, by EqW -/
def rEqW (X : Cx) : R2 := fun v u H Q => ∃ c g w x y n b, Rel X.K c g w H ∧ Rep X.K g v x ∧ Rep X.K g u y ∧ rcW x y ∧ n ≤ 60 ∧ EqW n x y b ∧ Q (.bl b) H
theorem od_eqW {X : Cx} (hu : X.A.units + 150 < cLine) : OpD X (compareOp .Eq) eqW := by
  refine ⟨rEqW X, fun pins s σ H x y v u Q I rx ry h => ?_, fun c g w H x y v u Q Qv R r1 r2 q k => ?_⟩
  · obtain ⟨c, g, w, x, y, n, b, R, r1, r2, hc, hn, h, q⟩ := h
    exact EqW.rc I R h hc (by omega) r1 r2 rx ry _ _ ⟨.bl b, H, I, rfl, q⟩
  · obtain ⟨hc, n, b, hn, h, q⟩ := q
    exact ⟨c, g, w, x, y, n, b, R, r1, r2, hc, hn, h, k _ _ ⟨g, w, .bl b, .rfl, R, .bl b, q⟩⟩

/-! ### isinstance of an own class -/
/-- the facts of a class that isinstance asks -/
structure InK (K : PySem.W.Frag) (C : Addr) : Prop where
  cl : Cls K C
  c1 : PySem.W.findIn K (.ref C) "__class__" = some (some (.builtin "object.__class__"))
  c2 : PySem.W.specialIn K (.builtin "object.__class__") "__get__" = some (some (.builtin "getset_descriptor.__get__"))
  c3 : PySem.W.takesIn K (.builtin "object.__class__") = some true
  c4 : PySem.W.mroIn K C (.type "object") = some true
  c5 : PySem.W.kitOne K (.ref C) (.ref C) = some true
structure IsX (K : PySem.W.Frag) (mg : Str → Option Value) (n : Str) : Prop where
  ex : ∃ C, ClsAt K n C ∧ InK K C ∧ mg n = some (.ref C) ∧ ∀ m ∈ ["NoneType", "bool", "int", "str", "list", "tuple", "dict"], PySem.W.kitOne K (.type m) (.ref C) = some false
def isiC (n : Str) (x : D) (w : W) (Q : DK) : Prop := match x with
  | .obj n' _ => n' = n ∧ Q (.bl true) w
  | x => (tyN x).isSome = true ∧ Q (.bl false) w
theorem tyN_in {x : D} {m : String} (h : tyN x = some m) : m ∈ ["NoneType", "bool", "int", "str", "list", "tuple", "dict"] := by
  cases x <;> cases h <;> decide
def isiCR (n : Str) (C : Addr) : DRC := fun xs w Q => match xs with
  | [x, .ref a] => a = C ∧ isiC n x w Q
  | _ => False
theorem cd_isiC {X : Cx} {n : Str} {C : Addr} (hC : ClsAt X.K n C) (c : InK X.K C) (hk : ∀ m ∈ ["NoneType", "bool", "int", "str", "list", "tuple", "dict"], PySem.W.kitOne X.K (.type m) (.ref C) = some false) :
    CallD X (.builtin "isinstance") (isiCR n C) := by
  refine ⟨_, call_isi, fun c' g w H vs ds Q Qv R r q k => ?_⟩
  unfold isiCR at q
  split at q
  · rename_i x a
    obtain ⟨rfl, q⟩ := q
    obtain ⟨v, u, rfl, r1, r2⟩ := r.two
    cases r2
    have fin : ∀ b, Q (.bl b) w → Qv (.bl b) H := fun b z => k _ _ ⟨g, w, _, .rfl, R, .bl b, z⟩
    unfold isiC at q
    split at q
    · obtain ⟨rfl, q⟩ := q
      cases r1 with
      | @obj a' C' dx _ xs ds kC s rf =>
        cases hC.eq kC
        exact ⟨_, _, _, _, true, rfl, .own _, .base (.ins (R.ins s) c.cl c.c1 c.c2 c.c3 c.c4), c.c5, fin _ q⟩
    · obtain ⟨h, q⟩ := q
      obtain ⟨m, hm⟩ := Option.isSome_iff_exists.mp h
      exact ⟨_, _, _, _, false, rfl, .own _, r1.tyx R hm, hk m (tyN_in hm), fin _ q⟩
  · exact q.elim
def dIsiC (n : Str) (t : DTE) : DTE := fun env w Q => t env w fun x w1 => isiC n x w1 Q
theorem de_isiC {X : Cx} {Wv : WX} {n : Str} {p p2 pos : Pos} {e : Expr} {t : DTE} (I : IsX X.K X.mg n) (hm : X.mg "isinstance" = none) (he : DE X Wv e t) (hg : Gl X "isinstance" := by rfl) (hg2 : Gl X n := by rfl) (hd2 : (n == ("__debug__" : Str)) = false := by decide)
    (hs : starEach (e :: [.Name n p2]) X.env = (false, eval e X.env) :: starEach [.Name n p2] X.env := by rfl) (hs2 : starEach ([.Name n p2]) X.env = (false, eval (.Name n p2) X.env) :: starEach [] X.env := by rfl) (hpl : (backTo pos (starEach [.Name n p2] X.env)).any (·.1) = false := by rfl) :
    DE X Wv (.Call (.Name "isinstance" p) [e, .Name n p2] [] pos) (dIsiC n t) := by
  obtain ⟨C, hC, c, hmC, hk⟩ := I.ex
  exact DE_imp (de_callB (cd_isiC hC c hk) hm (da_cons he (da_cons (de_ref hmC hg2 hd2) da_nil hs2) hs) hg (by decide +kernel) (by decide) (by decide) hs hpl) fun env w Q h => by
    show t env w fun x w1 => C = C ∧ isiC n x w1 Q
    have e : (fun x w1 => C = C ∧ isiC n x w1 Q) = fun x w1 => isiC n x w1 Q := by
      funext x w1
      exact propext ⟨fun h => h.2, fun h => ⟨rfl, h⟩⟩
    rw [e]
    exact h

/-! ### == and != by an own __eq__ -/
section
open PySem.Builtin
variable {prog : Program} {w : World} {A : Around} {E : Value → Shared → Prop} {s : Shared} {K : PySem.W.Frag} {a C f : Addr} {ob : Obj} {od : Option Obj} {b : Value}
theorem ifBound_B {M : Model} {name : Str} {i : String} {args : List Value} {Q : Option Value → Shared → Prop} (X : K.In s.heap) (I : PySem.W.InstAt s.heap a ob C od) (hs : PySem.W.findIn K (.ref C) name = some (some (.builtin i))) (S : Slot "object" name i)
    (h : wpAny M A (call (.builtin i) (.ref a :: args)) (fun v => Q (some v)) E s) : wpAny M A (callSpecialIfBound? (.ref a) name args) Q E s := by
  simp only [callSpecialIfBound?, bindSpecialIfBound?]
  refine wpAny_holding (wpAny_bind (wpAny_bind (wpAny_bind (I.type.here ((PySem.W.looks_findIn X hs).here ?_)))))
  simp only [S.bind]
  refine wpAny_bind (wpAny_askSetting (wpAny_ite ?_))
  have last : wpAny M A (call (.builtin i) ([.ref a] ++ args) >>= fun v => pure (some v)) Q E s := wpAny_bind (wpAny_mono h (fun v s' h' => wpAny_pure h') fun _ _ h' => h')
  split
  · exact wpAny_bind (wpAny_pure (wpAny_pure last))
  · exact wpAny_tryCatch (wpAny_bind (wpAny_pure (wpAny_pure last)))
theorem ne_body {Q : Fin → Shared → Prop} (hu : A.units < cLine) (X : K.In s.heap) (I : PySem.W.InstAt s.heap a ob C od) {c2 : Addr} (e1 : PySem.W.findIn K (.ref C) "__eq__" = some (some (.ref f))) (e2 : PySem.W.isFn K (.ref f) = true)
    (h : wpAny (model prog w) A (call (.ref f) [.ref a, .ref c2]) (fun v s' => ∃ k, v = .bool k ∧ Q (.done (.ret (.bool (!k)))) s') E s) : wpAny (model prog w) A (Builtin.«object.__ne__» ⟨[.ref a, .ref c2], []⟩) Q E s := by
  unfold Builtin.«object.__ne__»
  have step : wpAny (model prog w) A (callSpecialIfBound? (.ref a) (Str.ofString "__eq__") [.ref c2]) (fun r s' => ∃ k, r = some (.bool k) ∧ Q (.done (.ret (.bool (!k)))) s') E s :=
    PySem.W.ifBound_K X I e1 e2 (wpAny_mono h (fun v s' ⟨k, e, q⟩ => ⟨k, by rw [e], q⟩) fun _ _ z => z)
  obtain ⟨hh, gg, dd, tk, oo⟩ := s
  repeat (first
    | with_reducible refine wpAny_cRoomFor hu ?_
    | (refine wpAny_bind (m := callSpecialIfBound? (.ref a) (Str.ofString "__eq__") [.ref c2]) (wpAny_mono step (fun r s' hr => by
        obtain ⟨k, rfl, q⟩ := hr
        repeat (first | exact q | exact wpAny_pure q | exact wpAny_truthy_bool q | (refine wpAny_bind (m := truthy (.bool _)) (wpAny_truthy_bool ?_)) | wp_step)) fun _ _ z => z))
    | wp_step)
/-- a != b where the class has a __eq__ of its own and object's __ne__ -/
theorem ne_own {Q : Value → Shared → Prop} (hu : A.units + 1 < cLine) (X : K.In s.heap) (I : PySem.W.InstAt s.heap a ob C od) {c2 : Addr} (hb : PySem.W.Looks (model prog w) s.heap (typeOf (.ref c2)) (.ref C)) (e1 : PySem.W.findIn K (.ref C) "__eq__" = some (some (.ref f)))
    (e2 : PySem.W.isFn K (.ref f) = true) (e3 : PySem.W.findIn K (.ref C) "__ne__" = some (some (.builtin "object.__ne__"))) (e4 : PySem.W.mroIn K C (.type "object") = some true)
    (h : wpAny (model prog w) A.in1 (call (.ref f) [.ref a, .ref c2]) (fun v s' => ∃ k, v = .bool k ∧ Q (.bool (!k)) s') E s) : wpAny (model prog w) A (richCompare .NotEq (.ref a) (.ref c2)) Q E s := by
  have slot := PySem.F.cmp_object.ne
  have one : wpAny (model prog w) A (tryCompare (.ref a) "__ne__" (.ref c2)) (fun r s' => ∃ k, r = some (.bool k) ∧ Q (.bool k) s') E s := by
    unfold tryCompare
    refine wpAny_bind (ifBound_B X I e3 slot (wpAny_call (codeAny_call_builtin slot.plain PySem.F.cmpEntry_ne (PySem.W.check_slot PySem.F.cmpKind_ne PySem.F.cmpSplit_ne (I.type.andThen (PySem.W.looks_subIn X (t := .ref C) (base := .type "object") e4)) (PySem.F.cmpArgs_ne _ _)
      (ne_body (A := A.in1) hu X I e1 e2 (wpAny_mono h (fun v s' hv => ?_) fun _ _ z => z))))))
    obtain ⟨k, rfl, q⟩ := hv
    exact ⟨k, rfl, wpAny_pure ⟨!k, rfl, q⟩⟩
  unfold richCompare
  simp only [oneThing_ref]
  refine wpAny_holding (wpAny_bind (wpAny_cRoomFor (by omega) ?_))
  refine wpAny_bind (I.type.here (wpAny_bind (hb.here ?_)))
  rw [show (Value.ref C != Value.ref C) = false from by simp]
  simp only [Bool.false_eq_true, if_false]
  refine wpAny_bind (wpAny_pure ?_)
  simp only [Bool.false_eq_true, if_false]
  refine wpAny_bind (wpAny_mono one (fun r s' z => ?_) fun _ _ z => z)
  obtain ⟨k, rfl, q⟩ := z
  exact wpAny_pure q
end
section
variable {X : Cx}
theorem takes0W : Takes X W0 := fun u s' ⟨_, _, _, _, _, _, _, _, _, _, _, _, _, _, _, _, w⟩ => w.elim
/-- a def called from below the running body -/
theorem runBelow {A : Around} (ha : A.frames = X.A.frames) (hg : A.guards = X.A.guards) {k : Nat} {f : Addr} {fd : FuncData} {ps : List Str} {sp : Sp} {pins : List (Addr × Obj)} {σ : St} {H : Hp} {s : Shared} {Q : VK} {us : List Value} {vs : List V} (F : FnG X.prog X.w X.K X.mg X.base k f fd ps sp) (hr : Room k A) (hgd : X.A.guards = some []) (hb : Binds X.K fd ps [])
    (I : Inv X pins σ H s) (r : Vals vs us) (h : sp vs H Q fun _ _ _ => False) : wpAny (model X.prog X.w) A (call (.ref f) us) (EP X pins σ Q) X.xe s := by
  have hl : us.length = ps.length := by
    rw [← r.length]
    exact F.len _ _ _ _ h
  have b := hb s us I.kIn (by rw [List.append_nil]; exact hl)
  rw [List.append_nil] at b
  have e := I.env0
  have e0 : Env0 X.prog X.w X.K X.mg X.base A X.stack s H := ⟨by rw [ha]; exact e.frames, e.mod, e.bs, e.bsz, e.funs, e.frf, e.hok, e.bare⟩
  refine wpAny_call (codeAny_mono (F.run A X.stack s H _ us vs Q _ hr (by rw [hg]; exact hgd) e0 b r h) fun r s' hq => ?_)
  match r, hq with
  | .error e, hq => exact passAt takes0W σ pins H s e s' I hq
  | .ok (.ret u), hq => exact I.after hq
structure NeX (K : PySem.W.Frag) (n : Str) : Prop where
  ex : ∃ C, ClsAt K n C ∧ PySem.W.findIn K (.ref C) "__ne__" = some (some (.builtin "object.__ne__")) ∧ PySem.W.mroIn K C (.type "object") = some true
def eqOwn (n : Str) (dsp : DSp) (neg : Bool) : DR2 := fun x y w Q => ∃ fs gs, x = .obj n fs ∧ y = .obj n gs ∧ dsp [x, y] w.mute fun d w2 => ∃ b, d = .bl b ∧ Q (.bl (neg ^^ b)) (w2.as w)
def rEqOwn (K : PySem.W.Frag) (n : Str) (dsp : DSp) (neg : Bool) : R2 := fun v u H Qv => ∃ a b C dx dy xs ys, v = .ref a ∧ u = .ref b ∧ ClsAt K n C ∧ H a = some (.ins C dx xs) ∧ H b = some (.ins C dy ys) ∧
  liftSp K dsp [v, u] H (fun z H' => ∃ b, z = .bl b ∧ Qv (.bl (neg ^^ b)) H') fun _ _ _ => False
theorem eqOwn_lift {n : Str} {dsp : DSp} {neg : Bool} {c : Ck} {g : Gh} {w : W} {H : Hp} {x y : D} {v u : V} {Q : DK} {Qv : VK} (R : Rel X.K c g w H) (r1 : Rep X.K g v x) (r2 : Rep X.K g u y) (q : eqOwn n dsp neg x y w Q) (k : ∀ v H', PQ X.K c g Q v H' → Qv v H') : rEqOwn X.K n dsp neg v u H Qv := by
  obtain ⟨fs, gs, rfl, rfl, q⟩ := q
  have r1' := r1
  have r2' := r2
  cases r1 with
  | @obj a C dx _ xs _ kC s1 _ =>
  cases r2 with
  | @obj b C' dy _ ys _ kC' s2 _ =>
  cases kC.eq kC'
  refine ⟨a, b, C, dx, dy, xs, ys, rfl, rfl, kC, R.ins s1, R.ins s2, c.mute, g, w.mute, _, _, R.mute, .cons r1' (.cons r2' .nil), q, fun v H' ⟨g2, w2, d, l2, R2, r2, q2⟩ => ?_, fun _ => rfl, fun cls d H' g' l' px => ?_⟩
  · obtain ⟨b, rfl, q2⟩ := q2
    cases r2
    exact ⟨b, rfl, k _ _ ⟨g2, w2.as w, .bl _, l2, R2.unmute R.ex, .bl _, q2⟩⟩
  · obtain ⟨_, _, _, _, _, _, _, e, _⟩ := px
    exact e
theorem od_eqOwn {n : Str} {k : Nat} {dsp : DSp} (F : DMet X.prog X.w X.K X.mg X.base k n "__eq__" 2 dsp) (hr : Room k X.A) (hgd : X.A.guards = some []) : OpD X (compareOp .Eq) (eqOwn n dsp false) := by
  obtain ⟨C, f, fd, ps, hC, cl, hm, FF, hb, _⟩ := F.ex
  refine ⟨rEqOwn X.K n dsp false, fun pins s σ H x y v u Q I rx ry h => ?_, fun c g w H x y v u Q Qv R r1 r2 q k => eqOwn_lift R r1 r2 q k⟩
  obtain ⟨a, b, C', dx, dy, xs, ys, rfl, rfl, hC', ha, hb', h⟩ := h
  cases hC.eq hC'
  cases rx
  cases ry
  obtain ⟨mA, J, _⟩ := ins_get I.hok ha
  obtain ⟨mB, J', _⟩ := ins_get I.hok hb'
  obtain ⟨od, J, _⟩ := J.look
  obtain ⟨od', J', _⟩ := J'.look
  obtain ⟨m, hF⟩ := I.fr
  refine PySem.W.cmp_K (op := .Eq) (tb := .ref C) hr.units0 hF I.ok.mod.kin J J'.type (by simp [PySem.W.notFirst]) hm.at_ hm.fn ?_
  refine wpAny_mono (runBelow (A := X.A) rfl rfl FF hr hgd hb I (us := [.ref a, .ref b]) (vs := [.ref a, .ref b]) (.cons rfl (.cons rfl .nil)) h) (fun v s' q => ?_) fun _ _ z => z
  obtain ⟨z, H', I', rz, k, rfl, q⟩ := q
  cases rz
  exact ⟨.bl _, H', I', rfl, by simpa using q⟩
theorem od_neOwn {n : Str} {k : Nat} {dsp : DSp} (N : NeX X.K n) (F : DMet X.prog X.w X.K X.mg X.base k n "__eq__" 2 dsp) (hr : Room (k + 1) X.A) (hgd : X.A.guards = some []) : OpD X (compareOp .NotEq) (eqOwn n dsp true) := by
  obtain ⟨C, f, fd, ps, hC, cl, hm, FF, hb, _⟩ := F.ex
  obtain ⟨C2, hC2, n1, n2⟩ := N.ex
  cases hC.eq hC2
  refine ⟨rEqOwn X.K n dsp true, fun pins s σ H x y v u Q I rx ry h => ?_, fun c g w H x y v u Q Qv R r1 r2 q k => eqOwn_lift R r1 r2 q k⟩
  obtain ⟨a, b, C', dx, dy, xs, ys, rfl, rfl, hC', ha, hb', h⟩ := h
  cases hC.eq hC'
  cases rx
  cases ry
  obtain ⟨mA, J, _⟩ := ins_get I.hok ha
  obtain ⟨mB, J', _⟩ := ins_get I.hok hb'
  obtain ⟨od, J, _⟩ := J.look
  obtain ⟨od', J', _⟩ := J'.look
  refine ne_own (by have := hr.units; omega) I.kIn J J'.type hm.at_ hm.fn n1 n2 ?_
  refine wpAny_mono (runBelow (A := X.A.in1) rfl rfl FF hr.in1 hgd hb I (us := [.ref a, .ref b]) (vs := [.ref a, .ref b]) (.cons rfl (.cons rfl .nil)) h) (fun v s' q => ?_) fun _ _ z => z
  obtain ⟨z, H', I', rz, k, rfl, q⟩ := q
  cases rz
  refine ⟨k, rfl, .bl _, H', I', rfl, ?_⟩
  simpa using q
end
theorem sub_none {K : PySem.W.Frag} {C : Addr} : ∀ m ∈ ["NoneType", "bool", "int", "str", "list", "tuple", "dict"], PySem.W.subIn K (.type m) (.ref C) = some false := by
  intro t ht
  simp only [List.mem_cons, List.not_mem_nil, or_false] at ht
  rcases ht with rfl | rfl | rfl | rfl | rfl | rfl | rfl <;> kernel_rfl
theorem IsX.of {K : PySem.W.Frag} {mg : Str → Option Value} {n : Str} {C : Addr} (kC : ClsAt K n C) (hC : Cls K C) (m : mg n = some (.ref C)) (c1 : PySem.W.findIn K (.ref C) "__class__" = some (some (.builtin "object.__class__")))
    (c2 : PySem.W.specialIn K (.builtin "object.__class__") "__get__" = some (some (.builtin "getset_descriptor.__get__"))) (c3 : PySem.W.takesIn K (.builtin "object.__class__") = some true) (c4 : PySem.W.mroIn K C (.type "object") = some true)
    (c5 : PySem.W.isClsIn K C = true) (c6 : PySem.W.typeIn K (.ref C) = some (.type "type")) : IsX K mg n := by
  refine ⟨⟨C, kC, ⟨hC, c1, c2, c3, c4, ?_⟩, m, fun t ht => ?_⟩⟩
  · unfold PySem.W.kitOne
    rw [if_pos (by simp)]
  · have e := sub_none (K := K) (C := C) t ht
    unfold PySem.W.kitOne
    rw [if_neg (by simp)]
    unfold PySem.W.kitCls
    have c5 : (PySem.W.clsIn K C).isSome = true := c5
    dsimp only
    rw [c5, c6]
    rw [if_pos (by simp)]
    exact e
theorem NeX.of {K : PySem.W.Frag} {n : Str} {C : Addr} (kC : ClsAt K n C) (n1 : PySem.W.findIn K (.ref C) "__ne__" = some (some (.builtin "object.__ne__"))) (n2 : PySem.W.mroIn K C (.type "object") = some true) : NeX K n := ⟨⟨C, kC, n1, n2⟩⟩
theorem u150 {k : Nat} {A : Around} (r : Room k A) : A.units + 150 < cLine := by have := r.un; omega
end DL

/-! DLzg: list.index; what is forgotten. -/
namespace DL
open PySem PySem.Spec PyProof.Rows L2
def indexIn (xs : List D) (y : D) (w : W) (Q : DK) : Prop := (scalD y && xs.all scalD) = true ∧ ∃ j z, xs[j]? = some z ∧ eqS z y = true ∧ (∀ m z', m < j → xs[m]? = some z' → eqS z' y = false) ∧ Q (.int (j : Nat)) w
def indexR : D → DRC := fun x ds w Q => match x, ds with
  | .lst xs, [y] => indexIn xs y w Q
  | .ref p, [y] => ∃ xs, w.m p = some (.lst xs) ∧ indexIn xs y w Q
  | _, _ => False
section
variable {X : Cx}
theorem index_imp {c : Ck} {g : Gh} {w : W} {H : Hp} {a : Addr} {vs : List V} {xs : List D} {u : V} {y : D} {Q : DK} {Qv : VK} (R : Rel X.K c g w H) (s : SqL X.K H a vs) (r1 : RepL X.K g vs xs) (r2 : Rep X.K g u y) (q : indexIn xs y w Q) (k : ∀ v H', PQ X.K c g Q v H' → Qv v H') : rIndex X.K (.ref a) [u] H Qv := by
  obtain ⟨h1, j, z, h2, h3, h4, h5⟩ := q
  rw [Bool.and_eq_true] at h1
  obtain ⟨v, hv, rv⟩ := r1.get h2
  have sc : ∀ (i : Nat) d, xs[i]? = some d → scalD d = true := fun i d h => List.all_eq_true.mp h1.2 d (List.mem_of_getElem? h)
  refine ⟨a, vs, u, j, v, rfl, rfl, s, r2.flat h1.1, r1.flat h1.2, hv, ?_, fun m z' hm hz => ?_, k _ _ ⟨g, w, _, .rfl, R, .int _, h5⟩⟩
  · rw [rv.eqS r2 (sc j z h2) h1.1]; exact h3
  · obtain ⟨d, hd, rd⟩ := r1.getV hz
    rw [rd.eqS r2 (sc m d hd) h1.1]
    exact h4 m d hm hd
theorem md_index : MtD X "list.index" indexR := by
  refine ⟨_, mt_index, fun c g w H v x vs ds Q Qv R r1 r2 q k => ?_⟩
  unfold indexR at q
  split at q
  · obtain ⟨u, rfl, a⟩ := r2.one
    cases r1 with
    | lst s r => exact index_imp R (R.sqL s) r a q k
  · obtain ⟨u, rfl, a⟩ := r2.one
    cases r1
    obtain ⟨xs, e, q⟩ := q
    obtain ⟨ys, e1, r⟩ := R.mlst e
    exact index_imp R (SqL.of e1) r a q k
  · exact q.elim
end
/-- less is told -/
structure W.Sub (w2 w1 : W) : Prop where
  n : w2.n = w1.n
  e : w2.e = w1.e
  m : ∀ a o, w2.m a = some o → w1.m a = some o
theorem W.Sub.rfl {w : W} : W.Sub w w := ⟨Eq.refl _, Eq.refl _, fun _ _ h => h⟩
theorem Rel.sub {K : PySem.W.Frag} {c : Ck} {g : Gh} {w w2 : W} {H : Hp} (R : Rel K c g w H) (s : W.Sub w2 w) : Rel K c g w2 H :=
  ⟨R.imm, R.lck, fun a m e => R.mu a m (s.m a m e), R.frm, fun a e => by
    obtain ⟨h1, xs, h2, h3⟩ := R.pen a e
    exact ⟨h1, xs, h2, by rw [s.n]; exact h3⟩, by rw [s.e]; exact R.ex⟩
def dFgt (t : DTE) : DTE := fun env w Q => t env w fun d w1 => ∃ w2, W.Sub w2 w1 ∧ Q d w2
/-- what changes is forgotten behind an expression -/
theorem de_fgt {X : Cx} {Wv : WX} {e : Expr} {t : DTE} (h : DE X Wv e t) : DE X Wv e (dFgt t) :=
  ⟨PE_imp h.pe fun σ H Qv ⟨c, g, env, w, Q, B, q, k⟩ => bindE B q fun v H1 g1 w1 x l1 B1 r1 ⟨w2, s, q1⟩ => k v H1 ⟨g1, w2, x, l1, B1.R.sub s, r1, q1⟩⟩
def dFgtS (t : DTS) : DTS := fun D env w => ∃ w2, W.Sub w2 w ∧ t D env w2
/-- .. ahead of a statement -/
theorem ds_fgt {X : Cx} {Wv : WX} {st : Stmt} {t : DTS} (h : DS X Wv st t) : DS X Wv st (dFgtS t) :=
  ⟨PS_imp h.ps fun Dv σ H ⟨c, g, env, w, D, B, ⟨w2, s, q⟩, k⟩ => ⟨c, g, env, w2, D, ⟨B.R.sub s, B.E, B.X⟩, q, k⟩⟩
end DL

/-! DLzh: tuples joined, of any length; enumerate. -/
namespace DL
open PySem PySem.Spec PyProof.Rows L2
section
variable {X : Cx}
theorem od_addT : OpD X (binaryOp .Add) fun x y w Q => match x, y with
    | .tup a, .tup b => a.length + b.length ≤ sizeLine ∧ Q (.tup (a ++ b)) w
    | _, _ => False := by
  refine ⟨_, op_catA, fun c g w H x y v u Q Qv R r1 r2 q k => ?_⟩
  cases r1 with
  | @tup a xs ds s1 r1 => cases r2 with
    | @tup b ys es s2 r2 =>
      refine ⟨a, b, xs, ys, rfl, rfl, R.sqT s1, R.sqT s2, by rw [r1.length, r2.length]; exact q.1, fun z => ?_, fun _ z => ?_, fun _ _ => newT R (r1.append r2) q.2 k⟩
      · subst z
        cases r1
        exact k _ _ ⟨g, w, _, .rfl, R, .tup s2 r2, q.2⟩
      · subst z
        cases r2
        refine k _ _ ⟨g, w, _, .rfl, R, .tup s1 r1, ?_⟩
        have := q.2
        rw [List.append_nil] at this
        exact this
    | _ => exact False.elim q
  | _ => exact False.elim q
end
def enumD (ds : List D) : List D := ds.zipIdx.map fun p => .tup [.int (p.2 : Nat), p.1]
theorem enumD_get {ds : List D} {i : Nat} {x : D} (h : (enumD ds)[i]? = some x) : ∃ d, ds[i]? = some d ∧ x = .tup [.int (i : Nat), d] := by
  unfold enumD at h
  rw [List.getElem?_map, List.getElem?_zipIdx] at h
  cases e : ds[i]? with
  | none => rw [e] at h; cases h
  | some d =>
    rw [e] at h
    simp at h
    exact ⟨d, rfl, h.symm⟩
theorem enumD_len (ds : List D) : (enumD ds).length = ds.length := by unfold enumD; rw [List.length_map, List.length_zipIdx]
theorem isIt_enum {K : PySem.W.Frag} {L : Addr → Option Obj} {g : Gh} {a : Addr} {xs : List V} {ds : List D} (s : SqL K g.G a xs) (r : RepL K g xs ds) : IsIt K L g (enumD ds) (Ite K a) where
  go := fun c i w H g' _ l R hi => by
    rw [enumD_len] at hi
    have hx : i < xs.length := by rw [r.length]; exact hi
    exact ⟨xs, xs[i], R.sqL (SqL_le l s), by simp [hx]⟩
  yld := fun c i w H g' x H' d _ l R hd ⟨T, y, e1, hT, e2, hy⟩ => by
    subst e1
    subst e2
    obtain ⟨d0, h1, rfl⟩ := enumD_get hd
    have h2 := hy xs (R.sqL (SqL_le l s))
    obtain ⟨u, hu, ru⟩ := r.get h1
    rw [h2] at hu; cases hu
    have l2 := Gh.add_le (o := .tup [.int (i : Nat), y]) (R.noG hT)
    exact ⟨_, l2, R.alloc hT, .tup (.inl (.inl Gh.add_at)) (.cons (.int _) (.cons (ru.le (l.trans l2)) .nil)), fun b o h => by rw [upd_ne (ne_of_none h hT)]; exact h⟩
  stop := fun c w H g' _ l R => ⟨xs, R.sqL (SqL_le l s), by rw [enumD_len, r.length]; exact Nat.le_refl _⟩
def dEnum (t : DTA) : DTI := fun env w Q => t env w fun xs w1 => match xs with
  | [.lst ds] => Q (enumD ds) w1
  | _ => False
theorem di_enum {X : Cx} {Wv : WX} {e : Expr} {t : DTA} {p pos tpos : Pos} {elts : List Expr} {kk : Nat} (hm : X.mg "enumerate" = none) (ha : DA X Wv [e] t) (hg : Gl X "enumerate" := by rfl) (hs : starEach [e] X.env = [(false, eval e X.env)] := by rfl) :
    DI X Wv (.Tuple elts kk tpos) (.Call (.Name "enumerate" p) [e] [] pos) (dEnum t) :=
  ⟨PI_imp (pi_enum hg hm ha.pa hs) fun σ H Rv ⟨c, g, env, w, Q, B, q, k⟩ => bindA B q fun vs H1 g1 w1 xs l1 B1 r1 q1 => by
    split at q1
    · obtain ⟨v, rfl, a⟩ := r1.one
      cases a with
      | lst s r => exact ⟨_, _, rfl, B1.R.sqL s, k _ w1 H1 g1 _ _ l1 (.inl rfl) B1.R (isIt_enum s r) q1⟩
    · exact q1.elim⟩
end DL

/-! DLzi: min of texts. -/
namespace DL
open PySem PySem.Spec PyProof.Rows L2
def minT (x : Str) (r : List Str) : Str := r.foldl (fun a y => if strLt y a then y else a) x
theorem ltD_str (a b : Str) : PySem.W.dataLt (.str a) (.str b) = strLt a b := by
  have h := congrFun (congrFun leT_data b) a
  have h : (!PySem.W.dataLt (.str a) (.str b)) = leT b a := h
  unfold strLt
  unfold leT at h
  by_cases e : a.cps.toList < b.cps.toList
  · rw [decide_eq_true e]
    rw [decide_eq_false (fun z => (List.not_le.mpr e) z)] at h
    simpa using h
  · rw [decide_eq_false e]
    rw [decide_eq_true (List.not_lt.mp e)] at h
    simpa using h
theorem minD_strs : ∀ (r : List Str) (x : Str), PySem.W.minD (.str x) (r.map PyData.str) = .str (minT x r)
  | [], x => rfl
  | y :: r, x => by
    have ih := minD_strs r (if strLt y x then y else x)
    unfold PySem.W.minD at ih ⊢
    unfold minT at ih ⊢
    rw [List.map_cons, List.foldl_cons, List.foldl_cons, ltD_str]
    rw [← ih]
    congr 1
    cases strLt y x <;> rfl
theorem minT_head {x : Str} : ∀ {r : List Str}, ((x :: r).Pairwise fun a b => leT a b = true) → minT x r = x
  | [], _ => rfl
  | y :: r, h => by
    have h1 := List.pairwise_cons.mp h
    have h2 := List.pairwise_cons.mp h1.2
    have e : strLt y x = false := by
      have := h1.1 y List.mem_cons_self
      unfold leT at this
      unfold strLt
      exact decide_eq_false (List.not_lt.mpr (of_decide_eq_true this))
    unfold minT
    rw [List.foldl_cons, e]
    exact minT_head (r := r) (List.pairwise_cons.mpr ⟨fun z hz => h1.1 z (List.mem_cons_of_mem _ hz), h2.2⟩)
theorem reads_strs {h : Heap} : ∀ {vs : List Value} {xs : List Str}, StrsAre vs xs → ∃ as, ReadsAll h vs (xs.map .str) as
  | _, _, .nil => ⟨_, .nil⟩
  | _, _, .cons x t r => by
    obtain ⟨as, h⟩ := reads_strs (h := h) r
    exact ⟨_, .cons (.str x t) h⟩
section
variable {X : Cx}
def rMinL (X : Cx) : List V → Hp → VK → Prop := fun vs H Q => ∃ a x r, vs = [.ref a] ∧ SqL X.K H a ((x :: r).map V.str) ∧ Q (.str (minT x r)) H
open PySem.W in
theorem cr_minL (hc : X.calm = true) (hu : X.A.units + 8 < cLine) : CallR X (.builtin "min") (rMinL X) := by
  intro pins s σ H vs us Q I r h
  obtain ⟨a, x, xs, rfl, hs, q⟩ := h
  rw [Vals.ref1 r]
  obtain ⟨its, rv, hl, hz⟩ := I.list hs
  obtain ⟨as, hr⟩ := reads_strs (h := s.heap) rv.strs
  have hd : PyData.depthAll ((x :: xs).map PyData.str) ≤ 1 := by
    generalize x :: xs = l
    induction l with
    | nil => simp [PyData.depthAll]
    | cons y l ih => simp [PyData.depthAll, PyData.depth]; omega
  have al : AlikeAll ((x :: xs).map PyData.str) := ⟨fun y hy z hz => by
    obtain ⟨y, _, rfl⟩ := List.mem_map.mp hy
    obtain ⟨z, _, rfl⟩ := List.mem_map.mp hz
    rfl, fun y hy z => by
    obtain ⟨y, _, rfl⟩ := List.mem_map.mp hy
    cases z⟩
  refine min_list_data (x := .str x) (xs := xs.map .str) (I.ok.hd hc) hl.isList hr al ?_ fun i v h' tk bs _ rd k => ?_
  · have hd : PyData.depthAll (.str x :: xs.map PyData.str) ≤ 1 := hd
    omega
  · rw [minD_strs] at rd
    cases rd
    exact ⟨.str (minT x xs), H, I.kept k, ⟨_, rfl⟩, q⟩
/-- min of a list of texts -/
def minR : DRC := fun xs w Q => match xs with
  | [.lst ds] => ∃ x r, strsOf ds = some (x :: r) ∧ Q (.str (minT x r)) w
  | _ => False
theorem cd_min (hc : X.calm = true) (hu : X.A.units + 64 < cLine) : CallD X (.builtin "min") minR := by
  refine ⟨_, cr_minL hc (by omega), fun c g w H vs ds Q Qv R r q k => ?_⟩
  unfold minR at q
  split at q
  · obtain ⟨v, rfl, a⟩ := r.one
    obtain ⟨x, l, e, q⟩ := q
    cases a with
    | lst s r =>
      have z := r.strs e
      subst z
      exact ⟨_, x, l, rfl, R.sqL s, k _ _ ⟨g, w, _, .rfl, R, .str _, q⟩⟩
  · exact q.elim
end
end DL

/-! DLzj: own exceptions: raised, caught, kept. -/
namespace DL
open PySem PySem.Spec PyProof.Rows L2
/-- an own exception class without own __init__ -/
structure ExX (K : PySem.W.Frag) (mg : Str → Option Value) (n : Str) : Prop where
  ex : ∃ C, ClsAt K n C ∧ mg n = some (.ref C) ∧ PySem.W.keepIn K (.ref C) = true ∧ PySem.W.excIn K C [.type "ValueError", .type "Exception", .type "BaseException", .type "object"] "ValueError.__new__" = true ∧
    PySem.W.subIn K (.ref C) (.type "BaseException") = some true ∧ PySem.W.typeIn K (.ref C) = some (.type "type")
section
variable {X : Cx} {Wv : WX} {n m : Str} {j : Nat} {p p2 pos pos2 : Pos}
def dRaise (n : Str) : DTS := fun _ env w => w.e env n none w.m w.n
theorem ds_raise (I : ExX X.K X.mg n) (hc : X.calm = true) (tk : Takes X Wv) (hg : Gl X n := by rfl) (hdb : (n == ("__debug__" : Str)) = false := by decide) :
    DS X Wv (.Raise (some (.Call (.Name n p) [.Constant (.str m) j p2] [] pos)) none pos2) (dRaise n) := by
  obtain ⟨C, kC, hm, kp, ei, h1, h2⟩ := I.ex
  exact ⟨PS_imp (ps_raise hc tk (pmk_own PySem.F.excBase_ValueError ei hm kp (raises_own h1 h2) hg hdb)) fun Dv σ H ⟨c, g, env, w, D, B, q, E⟩ =>
    B.X env σ H (.ref C) none g .rfl B.E ⟨g, w, n, none, ⟨C, kC, rfl⟩, .rfl, B.R, by rw [← B.R.ex]; exact q, rfl⟩⟩
end
/-! ### kept as it was caught -/
section
variable {X : Cx} {pins : List (Addr × Obj)} {σ : St} {H : Hp} {s : Shared}
theorem excO_ok {P : Program} {w : World} {H : Hp} {h : Heap} {a : Addr} {cls : Value} {d : Option Addr} {oe : Obj} {vs : Array Value} (e : h.get? a = some oe) (z : Zc cls d oe) (hd : oe.data = .fields vs) : ObjOk P w H h a (ExcO a cls d) :=
  ⟨⟨oe, vs, e, z.1, z.2, hd⟩, ⟨oe, e⟩, fun _ _ ⟨o, v, q, r⟩ k => ⟨o, v, k o q, r⟩⟩
theorem inv_adopt {a : Addr} {oe : Obj} {vs : Array Value} {cls : Value} {d : Option Addr} (I : Inv X pins σ H s) (ha : s.heap.get? a = some oe) (hz : Zc cls d oe) (hd : oe.data = .fields vs) (na : H a = none) (n0 : X.s_0.heap.get? a = none)
    (nL : a ≠ X.env.locals) (np : ∀ p ∈ X.pn ++ pins, p.1 ≠ a) : Inv X pins σ (upd H a (ExcO a cls d)) s := by
  have ne : ∀ {b : Addr} {u : HO}, H b = some u → b ≠ a := fun {b u} e => ne_of_none e na
  have n1 : ∀ {b : Addr} {o : Obj}, X.s_0.heap.get? b = some o → b ≠ a := fun {b o} e z => by rw [z, n0] at e; cases e
  have nc : ∀ x c, X.env.cells.lookup x = some c → c ≠ a := fun x c e z => by
    obtain ⟨v, o, ho, hv⟩ := I.cell x c e
    rw [z, ha] at ho
    cases ho
    rw [hd] at hv
    cases hv
  refine ⟨I.ok, I.os, I.bare, ⟨I.base.keep, I.base.slot, fun b o e n hb => ?_, I.base.there, fun b xs e => ?_, fun b o u e => ?_, fun b ps e => ?_⟩, I.loc, I.cell, ?_, fun x c e => ?_, fun p hp => ?_, fun b u e => ?_, I.len⟩
  · rw [upd_ne (n1 e)]; exact I.base.free b o e n hb
  · have q := I.base.tups b xs e
    rw [upd_ne (ne q)]; exact q
  · have q := I.base.frzs b o u e
    rw [upd_ne (ne q)]; exact q
  · obtain ⟨m, q⟩ := I.base.tbls b ps e
    exact ⟨m, by rw [upd_ne (ne q)]; exact q⟩
  · rw [upd_ne (fun z => nL z.symm)]; exact I.free
  · rw [upd_ne (nc x c e)]; exact I.freeC x c e
  · obtain ⟨e, n, r⟩ := I.pin p hp
    exact ⟨e, by rw [upd_ne (np p hp)]; exact n, r⟩
  · by_cases hb : b = a
    · subst hb
      rw [upd_same] at e
      cases e
      exact excO_ok ha hz hd
    · rw [upd_ne hb] at e
      exact (I.hok b u e).stay (fun c v _ q => q) (fun c q => by rw [upd_ne (ne q)]; exact q) fun c xs q => by rw [upd_ne (ne q)]; exact q
end
/-- what is wished of what leaves a try's body: it is caught, and kept -/
def wCat (K : PySem.W.Frag) (c : Value) (i : Nat) (ts : TS) (D : Ends) : WX := fun cls d σ H =>
  PySem.W.exmOne K cls c = some true ∧ ∀ a, H a = none → ts { nx := fun σ' H' => D.nx (σ'.set i none) H', rt := D.rt, bk := fun σ' H' => D.bk (σ'.set i none) H', ct := fun σ' H' => D.ct (σ'.set i none) H' } (σ.set i (some (.ref a))) (upd H a (ExcO a cls d))
section
variable {X : Cx} {pins : List (Addr × Obj)} {x n : Str} {c : Value} {i : Nat} {body suite : List Stmt} {b₀ : Stmt} {np pos pos' : Pos} {tb : WX → TS} {ts : TS}
/-- the clause takes the exception that lies on the ground -/
theorem clause_keeps (hf : X.env.frame = some X.env.locals) (hx : X.ex = []) (hN : X.N.Nodup) (hi : X.N[i]? = some n) (hln : X.env.kindOf n = some .local) (hc : Names X x c)
    (hsu : ∀ (a : Addr) (pn : List (Addr × Obj)), PSs (X.suite a pn) (b₀ :: suite) ts) {D : Ends} {a : Addr} {B h3 : Heap} {σ : St} {H : Hp} {sI s' : Shared} {cls : Value} {d : Option Addr} (hs : X.stack = X.env :: X.outer)
    (J : Inv X pins σ H sI) (nb : ∀ b o, sI.heap.get? b = some o → b ∉ frs X.stack → B.get? b = some o) (up : sI.heap.UpToSlots h3) (na : H a = none) (os : s'.os = sI.os) (ag : AllBare s'.gens)
    (fl : HandSPX.FlyingZ B (X.env :: X.outer) a (Zc cls d) h3) (w : wCat X.K c i ts D cls d σ H) :
    wpAny (model X.prog X.w) X.A (handleBy (.ref a) X.env [.ExceptHandler (some (.Name x np)) (some n) (b₀ :: suite) pos']) (SP X pins D) X.xe { s' with heap := h3 } := by
  have ok := J.ok
  have notIn : ∀ {h : Heap}, HandSPX.FlyingZ B (X.env :: X.outer) a (Zc cls d) h → a ∉ frs X.stack := fun {h} fl hm => by
    obtain ⟨oe, vs, he, _, hd⟩ := fl.there
    rw [hs] at hm
    obtain ⟨_, o', e', hnf⟩ := fl.2.2.1.mem hm
    rw [he] at e'
    cases e'
    exact hnf _ hd
  have nfr := notIn fl
  have nI : sI.heap.get? a = none := by
    cases e : sI.heap.get? a with
    | none => rfl
    | some o =>
      have z := nb a o e nfr
      rw [fl.2.1] at z
      cases z
  have n0 : X.s_0.heap.get? a = none := by
    cases e : X.s_0.heap.get? a with
    | none => rfl
    | some o =>
      obtain ⟨o', q⟩ := J.base.there a o e (by rw [hx]; exact fun z => nomatch z)
      rw [nI] at q
      cases q
  have np0 : ∀ p ∈ X.pn ++ pins, p.1 ≠ a := fun p hp z => by
    obtain ⟨e, _⟩ := J.pin p hp
    rw [z, nI] at e
    cases e
  have nL : a ≠ X.env.locals := fun z => nfr (by rw [hs]; exact List.mem_filterMap.mpr ⟨X.env, List.mem_cons_self, by rw [hf, z]⟩)
  have nF : a ∉ X.fs := fun hm => by
    obtain ⟨e, he, q⟩ := List.mem_filterMap.mp hm
    exact nfr (by rw [hs]; exact List.mem_filterMap.mpr ⟨e, List.mem_cons_of_mem _ he, q⟩)
  have land : ∀ {h : Heap}, HandSPX.FlyingZ B (X.env :: X.outer) a (Zc cls d) h → sI.heap.UpToSlots h → Inv X pins σ (upd H a (ExcO a cls d)) { s' with heap := h } := fun {h} f u => by
    obtain ⟨oe, vs, he, hz, hd⟩ := f.there
    have J1 : Inv X pins σ H { s' with heap := h } := J.landed nb f.1 u os ag
    exact inv_adopt J1 he hz hd na n0 nL np0
  have toS : ∀ {σ : St} {H : Hp} {s : Shared}, Inv X pins σ H s → Inv (X.suite a (X.pn ++ pins)) [] σ H s := fun {σ H s} I =>
    ⟨I.ok.suite _ _, I.os, I.bare, I.base, I.loc, I.cell, I.free, I.freeC, fun p hp => I.pin p (by rw [List.append_nil] at hp; exact hp), I.hok, I.len⟩
  have ofS : ∀ {σ : St} {H : Hp} {s : Shared} {pn' : List (Addr × Obj)}, Inv (X.suite a (X.pn ++ pins)) pn' σ H s → Inv X pins σ H s := fun {σ H s pn'} I =>
    ⟨ok, I.os, I.bare, I.base, I.loc, I.cell, I.free, I.freeC, fun p hp => I.pin p (List.mem_append_left _ hp), I.hok, I.len⟩
  obtain ⟨oe, vs, he, hz, hd⟩ := fl.there
  obtain ⟨wm, wk⟩ := w
  have I3 := land fl up
  have LT : PySem.W.Looks (model X.prog X.w) h3 (typeOf (.ref a)) cls := fun A Q E s k q => wpAny_typeOf_ref (k _ _ he) (by rw [hz.1]; exact q)
  have LM := PySem.W.exm_one (M := model X.prog X.w) I3.kIn LT wm
  refine wpAny_handleBy_cons (codeAny_handlers_test ?_) (by intro q; cases q)
  have name : ∀ {Q : Value → Shared → Prop} {E : Value → Shared → Prop}, Q c { s' with heap := h3 } → wpAny (model X.prog X.w) (X.A.mark (some (.ref a))) (eval (.Name x np) X.env) Q E { s' with heap := h3 } := fun {Q E} q => by
    obtain ⟨hg, hdbg, hm | ⟨hm, hv, hnn⟩⟩ := hc
    · exact ld_glob (X := X.suite a (X.pn ++ pins)) (toS I3) hg hm q hdbg
    · exact ld_blt (X := X.suite a (X.pn ++ pins)) (toS I3) hg hm hv q hnn hdbg
  refine name (LM.here (codeAny_handlers_suite_as (HandSPX.lands_againZ fl fun h4 fl4 up4 => ?_)))
  have I4 := land fl4 (up.trans up4)
  refine store_ok (X := X.suite a (X.pn ++ pins)) (v := .ref a) (toS I4) hN hi (.inl hln) rfl (fun s5 I5 => ?_) (.inr hln)
  refine wpAny_mono ((hsu a (X.pn ++ pins)).run [] s5 _ _ _ I5 (wk a na)) (fun f s6 hsp => ?_) (fun _ _ z => False.elim z)
  have last : ∀ {σ6 : St} {H6 : Hp} {Q : Shared → Prop}, Inv (X.suite a (X.pn ++ pins)) [] σ6 H6 s6 → (∀ s7, Inv X pins (σ6.set i none) H6 s7 → Q s7) →
      wpAny (model X.prog X.w) X.A (do bindName X.env n .none; unbindBehindTheSuite X.env n pos') (fun _ s7 => Q s7) X.xe s6 := fun {σ6 H6 Q} I6 hq => gone_ok (ofS I6) hN hi hln hq
  cases f with
  | next =>
    obtain ⟨σ6, H6, I6, q6⟩ := hsp
    exact last I6 fun s7 J7 => ⟨_, _, J7, q6⟩
  | brk =>
    obtain ⟨σ6, H6, I6, q6⟩ := hsp
    exact last I6 fun s7 J7 => ⟨_, _, J7, q6⟩
  | cont =>
    obtain ⟨σ6, H6, I6, q6⟩ := hsp
    exact last I6 fun s7 J7 => ⟨_, _, J7, q6⟩
  | ret u =>
    obtain ⟨v6, σ6, H6, I6, r6, q6⟩ := hsp
    exact last I6 fun s7 J7 => ⟨_, _, _, J7, r6, q6⟩
/-- try: body, except x as n: suite, where all that leaves the body is caught -/
theorem ps_try_keep (hs : X.stack = X.env :: X.outer) (hf : X.env.frame = some X.env.locals) (hx : X.ex = []) (hN : X.N.Nodup) (hi : X.N[i]? = some n) (hln : X.env.kindOf n = some .local) (hc : Names X x c)
    (hb : ∀ (W : WX) (pn : List (Addr × Obj)) (xe : Value → Shared → Prop), Takes (X.tr pn xe) W → PSs (X.tr pn xe) body (tb W))
    (hsu : ∀ (a : Addr) (pn : List (Addr × Obj)), PSs (X.suite a pn) (b₀ :: suite) ts) :
    PS X (.Try body [.ExceptHandler (some (.Name x np)) (some n) (b₀ :: suite) pos'] [] [] pos) (fun D σ H => tb (wCat X.K c i ts D) D σ H) := by
  refine ⟨fun pins s σ H D I h => wpAny_Try_except ?_⟩
  have ok := I.ok
  have hfr : X.A.frames = some (X.env :: X.outer) := by rw [ok.frames, hs]
  refine wpAny_mono ((hb (wCat X.K c i ts D) (X.pn ++ pins) (fun e s₁ => wpAny (model X.prog X.w) X.A (noteFrame e X.env) (fun _ s₂ => wpAny (model X.prog X.w) X.A (setFlight e none) (fun _ s₃ =>
    wpAny (model X.prog X.w) X.A (handleBy e X.env [.ExceptHandler (some (.Name x np)) (some n) (b₀ :: suite) pos']) (SP X pins D) X.xe s₃) X.xe s₂) X.xe s₁) fun u s' xx => ?_).run [] s σ H D (I.toTry _) h) (fun f s1 hsp => ?_) fun e s1 he => he
  · obtain ⟨a, B, sI, pins', σ', H', cls, d, rfl, J', nb, up, sky, na, os, ag, w⟩ := xx
    have sky' : Sky B (X.env :: X.outer) a (Zc cls d) X.env.locals s'.heap := by rw [← hs]; exact sky
    exact Sky.land Zc.steady hfr hf sky' fun h3 fl up3 => clause_keeps hf hx hN hi hln hc hsu hs (J'.ofTry ok) nb (up.trans up3) na os ag fl w
  · cases f with
    | next =>
      obtain ⟨σ', H', J, q⟩ := hsp
      exact wpAny_execs_nil ⟨σ', H', J.ofTry ok, q⟩
    | brk =>
      obtain ⟨σ', H', J, q⟩ := hsp
      exact ⟨σ', H', J.ofTry ok, q⟩
    | cont =>
      obtain ⟨σ', H', J, q⟩ := hsp
      exact ⟨σ', H', J.ofTry ok, q⟩
    | ret u =>
      obtain ⟨v, σ', H', J, r, q⟩ := hsp
      exact ⟨v, σ', H', J.ofTry ok, r, q⟩
end
/-! ### over trees -/
/-- the class that an except clause names, and classes that it takes -/
structure CatX (K : PySem.W.Frag) (mg : Str → Option Value) (n : Str) (cs : List Str) : Prop where
  ex : ∃ C, mg n = some (.ref C) ∧ ∀ m ∈ cs, ∀ a, ClsAt K m a → PySem.W.exmOne K (.ref a) (.ref C) = some true
theorem EnR.drop {K : PySem.W.Frag} {g : Gh} {env : En} {σ : St} (e : EnR K g env σ) (i : Nat) : EnR K g (env.set i Option.none) (σ.set i Option.none) := by
  have e1 := e.none i
  refine ⟨by rw [List.length_set, List.length_set]; exact e.len, fun j x q => ?_⟩
  by_cases h : i = j
  · subst h
    by_cases hi : i < env.length
    · rw [List.getElem?_set_self hi] at q
      cases q
    · rw [List.getElem?_eq_none (by simpa using hi)] at q
      cases q
  · obtain ⟨v, a, r⟩ := e1.at_ j x q
    exact ⟨v, by rw [List.getElem?_set_ne h]; exact a, r⟩
def tryEnds (D : DEnds) (w : W) : DEnds := { nx := fun e2 w2 => D.nx e2 (w2.as w), rt := fun d w2 => D.rt d (w2.as w), bk := fun e2 w2 => D.bk e2 (w2.as w), ct := fun e2 w2 => D.ct e2 (w2.as w) }
def suiteEnds (i : Nat) (D : DEnds) (w : W) : DEnds := { nx := fun e3 w3 => D.nx (e3.set i none) (w3.as w), rt := fun d w3 => D.rt d (w3.as w), bk := fun e3 w3 => D.bk (e3.set i none) (w3.as w), ct := fun e3 w3 => D.ct (e3.set i none) (w3.as w) }
def tryW (i : Nat) (cs : List Str) (ts : DTS) (D : DEnds) (w : W) : W :=
  { m := w.m, n := w.n, e := fun e2 C fs m k => C ∈ cs ∧ (fs.map List.isEmpty).getD false = false ∧ ts (suiteEnds i D w) (e2.set i (some (.exc C (fs.getD [])))) { m := m, n := k, e := w.e } }
/-- try: tb, except as slot i: ts -/
def dTry (i : Nat) (cs : List Str) (tb ts : DTS) : DTS := fun D env w => tb (tryEnds D w) env (tryW i cs ts D w)
section
variable {X : Cx} {Wv : WX} {x n : Str} {i : Nat} {cs : List Str} {body suite : List Stmt} {b₀ : Stmt} {np pos pos' : Pos} {tb ts : DTS}
theorem ds_try (I : CatX X.K X.mg x cs) (hN : X.N.Nodup) (hs : X.stack = X.env :: X.outer) (hf : X.env.frame = some X.env.locals) (hx : X.ex = [])
    (hb : ∀ (W : WX) (pn : List (Addr × Obj)) (xe : Value → Shared → Prop), Takes (X.tr pn xe) W → DSs (X.tr pn xe) W body tb)
    (hsu : ∀ (a : Addr) (pn : List (Addr × Obj)), DSs (X.suite a pn) (fun _ _ _ _ => True) (b₀ :: suite) ts)
    (hi : X.N[i]? = some n := by rfl) (hln : X.env.kindOf n = some .local := by rfl) (hg : Gl X x := by rfl) (hdb : (x == ("__debug__" : Str)) = false := by decide) :
    DS X Wv (.Try body [.ExceptHandler (some (.Name x np)) (some n) (b₀ :: suite) pos'] [] [] pos) (dTry i cs tb ts) := by
  obtain ⟨C, hm, hcs⟩ := I.ex
  refine ⟨PS_imp (ps_try_keep (tb := fun W => liftS X.K W tb) (ts := liftS X.K (fun _ _ _ _ => True) ts) hs hf hx hN hi hln ⟨hg, hdb, .inl hm⟩ (fun W pn xe tk => (hb W pn xe tk).ps) (fun a pn => (hsu a pn).ps)) fun Dv σ H ⟨c, g, env, w, D, B, q, E⟩ => ?_⟩
  refine ⟨{ c with e := (tryW i cs ts D w).e }, g, env, tryW i cs ts D w, tryEnds D w, ⟨⟨B.R.imm, B.R.lck, B.R.mu, B.R.frm, B.R.pen, rfl⟩, B.E, fun env' σ' H' cls d g' l' E' px => ?_⟩, q, ⟨?_, ?_, ?_, ?_⟩⟩
  · obtain ⟨g2, w2, n2, fs, ⟨a2, k2, rfl⟩, l2, R2, ⟨hC, _, q2⟩, dd⟩ := px
    refine ⟨hcs n2 hC a2 k2, fun a na => ?_⟩
    have R3 := R2.alloc (o := ExcO a (.ref a2) d) na
    have l3 := Gh.add_le (o := ExcO a (.ref a2) d) (R2.noG na)
    have rx : Rep X.K (g2.add a (ExcO a (.ref a2) d)) (.ref a) (.exc n2 (fs.getD [])) := by
      cases d with
      | none =>
        cases (show fs = none from dd)
        exact .exc (od := none) (xs := []) k2 Gh.add_at rfl .nil
      | some dx =>
        obtain ⟨xs, ds, hne, hG, rf, rfl⟩ := (show ∃ xs ds, _ from dd)
        exact .exc (od := some dx) k2 Gh.add_at ⟨hne, l3.G _ _ hG⟩ (rf.le l3)
    refine ⟨c, _, env'.set i (some (.exc n2 (fs.getD []))), { m := w2.m, n := w2.n, e := w.e }, suiteEnds i D w, ⟨⟨R3.imm, R3.lck, R3.mu, R3.frm, R3.pen, B.R.ex⟩, ((E'.le l2).le l3).set rx, fun _ _ _ _ _ _ _ _ _ => trivial⟩, q2, ⟨?_, ?_, ?_, ?_⟩⟩
    · intro env3 w3 σ3 H3 g3 l4 B3 q3
      exact E.nx (env3.set i none) (w3.as w) (σ3.set i none) H3 g3 (((l'.trans l2).trans l3).trans l4) ⟨B3.R.out rfl rfl B.R.ex, B3.E.drop i, fun e4 s4 H4 cls4 d4 g5 l5 E5 p5 => B.X e4 s4 H4 cls4 d4 g5 ((((l'.trans l2).trans l3).trans l4).trans l5) E5 p5⟩ q3
    · intro v3 H3 ⟨g3, w3, d3, l4, R4, r4, q4⟩
      exact E.rt v3 H3 ⟨g3, w3.as w, d3, ((l'.trans l2).trans l3).trans l4, R4.out rfl rfl B.R.ex, r4, q4⟩
    · intro env3 w3 σ3 H3 g3 l4 B3 q3
      exact E.bk (env3.set i none) (w3.as w) (σ3.set i none) H3 g3 (((l'.trans l2).trans l3).trans l4) ⟨B3.R.out rfl rfl B.R.ex, B3.E.drop i, fun e4 s4 H4 cls4 d4 g5 l5 E5 p5 => B.X e4 s4 H4 cls4 d4 g5 ((((l'.trans l2).trans l3).trans l4).trans l5) E5 p5⟩ q3
    · intro env3 w3 σ3 H3 g3 l4 B3 q3
      exact E.ct (env3.set i none) (w3.as w) (σ3.set i none) H3 g3 (((l'.trans l2).trans l3).trans l4) ⟨B3.R.out rfl rfl B.R.ex, B3.E.drop i, fun e4 s4 H4 cls4 d4 g5 l5 E5 p5 => B.X e4 s4 H4 cls4 d4 g5 ((((l'.trans l2).trans l3).trans l4).trans l5) E5 p5⟩ q3
  · intro env3 w3 σ3 H3 g3 l4 B3 q3
    exact E.nx env3 (w3.as w) σ3 H3 g3 l4 ⟨B3.R.out rfl rfl B.R.ex, B3.E, fun e4 s4 H4 cls4 d4 g5 l5 E5 p5 => B.X e4 s4 H4 cls4 d4 g5 (l4.trans l5) E5 p5⟩ q3
  · intro v3 H3 ⟨g3, w3, d3, l4, R4, r4, q4⟩
    exact E.rt v3 H3 ⟨g3, w3.as w, d3, l4, R4.out rfl rfl B.R.ex, r4, q4⟩
  · intro env3 w3 σ3 H3 g3 l4 B3 q3
    exact E.bk env3 (w3.as w) σ3 H3 g3 l4 ⟨B3.R.out rfl rfl B.R.ex, B3.E, fun e4 s4 H4 cls4 d4 g5 l5 E5 p5 => B.X e4 s4 H4 cls4 d4 g5 (l4.trans l5) E5 p5⟩ q3
  · intro env3 w3 σ3 H3 g3 l4 B3 q3
    exact E.ct env3 (w3.as w) σ3 H3 g3 l4 ⟨B3.R.out rfl rfl B.R.ex, B3.E, fun e4 s4 H4 cls4 d4 g5 l5 E5 p5 => B.X e4 s4 H4 cls4 d4 g5 (l4.trans l5) E5 p5⟩ q3
end
end DL

/-! DLzk: isinstance of what was caught. -/
namespace DL
open PySem PySem.Spec PyProof.Rows L2
/-- the exception of the class C is wanted -/
def W.rzA (w : W) (C : Str) (fs : Option (List (Str × D))) : Prop := ∀ env, w.e env C fs w.m w.n
theorem Rel.exc {K : PySem.W.Frag} {c : Ck} {g : Gh} {w : W} {H : Hp} (R : Rel K c g w H) {a : Addr} {cls : Value} {d : Option Addr} (h : g.G a = some (ExcO a cls d)) : H a = some (ExcO a cls d) := by
  rcases R.imm a _ h with ⟨_, q⟩ | ⟨o, q, _⟩
  · exact q
  · obtain ⟨u, z⟩ := R.lck a o q
    rw [h] at z
    cases z
/-! isinstance of an exception, whatever its dict holds -/
section
open PySem.W
variable {prog : Program} {wd : World} {A : Around} {EE : Value → Shared → Prop} {s : Shared} {K : PySem.W.Frag} {x D : Addr} {ox : Obj} {od : Option Obj}
theorem exc_class (C : ExcC K D) {R : Option Value → Shared → Prop} (kin : K.In s.heap) (J : InstAt s.heap x ox D od) (r : R (some (.ref D)) { s with toks := s.toks + 1 }) : wpAny (model prog wd) A (getAttr? (.ref x) "__class__") R EE s := by
  have fnd : findObj K D od "__class__" = some (.bind (.builtin "getset_descriptor.__get__") (.builtin "object.__class__")) := by
    have there : (clsIn K D).isSome = true := by obtain ⟨cd, hc, _⟩ := any_some C.hd; rw [hc]; rfl
    cases od with
    | none => exact findObj_dataN there C.ha C.hn C.ht
    | some o => exact findObj_data there C.ha C.hn C.ht
  obtain ⟨hp, gg, dd, tk, os⟩ := s
  have LT := J.type (M := model prog wd)
  have LA := looks_findIn (M := model prog wd) kin C.hg
  have LB := looks_findIn (M := model prog wd) kin C.hk
  have LF := looks_find (M := model prog wd) kin J fnd
  have LS : Looks (model prog wd) hp (isInstance (.ref x) (.type "BaseException")) true := LT.andThen (looks_subIn kin C.hs)
  have nh : (false && onTheHeap (Value.builtin "BaseException.__getattribute__")) = false := rfl
  have no : (Value.builtin "BaseException.__getattribute__" == Value.builtin "object.__getattribute__") = false := by decide +kernel
  have nb : (onTheHeap (Value.ref D) && Value.builtin "BaseException.__getattribute__" == Value.builtin "object.__getattribute__") = false := by rw [no]; rfl
  unfold getAttr? getAttrBy? getAttrBy
  refine wpAny_bind (wpAny_mkText (wpAny_bind (wpAny_attempt (wpAny_holding (wpAny_bind (LT.at (wpAny_bind (LA.at ?_))))))))
  show wpAny _ _ (if (onTheHeap (Value.ref D) && Value.builtin "BaseException.__getattribute__" == Value.builtin "object.__getattribute__") = true then _ else _) _ _ _
  rw [nb, if_neg Bool.false_ne_true]
  unfold getAttrByItsOwn hookBefore
  refine wpAny_bind ?_
  rw [if_pos (show onTheHeap (Value.ref D) = true from rfl)]
  refine LB.at ?_
  refine wpAny_bind (wpAny_attempt (wpAny_holding ?_))
  unfold callGetattribute
  rw [nh, if_neg Bool.false_ne_true]
  unfold boundAndCalled
  rw [PySem.F.excAttr_ValueError.ga.bind (.ref x)]
  refine wpAny_bind (wpAny_pure ?_)
  show wpAny _ _ (call (.builtin "BaseException.__getattribute__") [.ref x, .str "__class__" tk]) _ _ _
  refine wpAny_call (codeAny_call_builtin PySem.F.excAttr_ValueError.ga.plain PySem.F.entry_bexc_ga ?_)
  refine @check_slot (model prog wd) _ _ ⟨hp, gg, dd, tk + 1, os⟩ "BaseException.__getattribute__" "BaseException" "__getattribute__" (.ref x) [.str "__class__" tk] [] _ (by decide +kernel) (by decide +kernel) LS (PySem.F.args_bexc_ga (.ref x) (.str "__class__" tk)) ?_
  unfold Builtin.«object.__getattribute__»
  refine wpAny_bind (wpAny_of_eq (a := ((Value.ref x : Value), [Value.str "__class__" tk])) (by first | rfl | (simp only [slotArgs]; rfl)) ?_)
  refine wpAny_bind (wpAny_pure (wpAny_bind (LT.at (wpAny_bind (LF.at ?_)))))
  show wpAny _ _ (holding [Value.builtin "object.__class__"] (call (.builtin "getset_descriptor.__get__") [.builtin "object.__class__", .ref x, .ref D]) >>= ret) _ _ _
  refine wpAny_bind (wpAny_holding (wpAny_call (class_get (s := ⟨hp, gg, dd, tk + 1, os⟩) (ox := ox) (od := od) kin J C.hm ?_)))
  refine wpAny_pure ?_
  show wpAny _ _ (handedOut (.ref D)) _ _ _
  rw [handedOut_of (v := .ref D) rfl]
  first
    | exact wpAny_pure (wpAny_pure r)
    | exact wpAny_pure r
    | exact wpAny_pure (wpAny_bind (wpAny_pure (wpAny_pure r)))
theorem exc_kit (C : ExcC K D) : KitX K (.ref x) (.ref D) (fun h => InstAt h x ox D od) where
  ty := fun _ _ _ J => J.type
  it := fun _ _ kin _ => by
    obtain ⟨cdD, hcD, _⟩ := any_some C.hd
    unfold clsIn at hcD
    split at hcD
    · rename_i c1 d1 cd1 sl1 ho
      intro A1 Q1 E1 s1 k q
      unfold isType loadHead
      exact wpAny_bind (wpAny_loadPart (k _ _ (kin _ _ ho)) (wpAny_pure q))
    · cases hcD
  ne := fun h tp dd its n sl kin htp => by
    obtain ⟨cdD, hcD, _⟩ := any_some C.hd
    refine Bool.eq_false_iff.mpr fun q => ?_
    obtain rfl : D = tp := Value.ref.inj (beq_iff_eq.mp q)
    unfold clsIn at hcD
    split at hcD
    · rename_i c1 d1 cd1 sl1 ho
      cases (kin _ _ ho).symm.trans htp
    · cases hcD
  ca := fun kin J r => exc_class C kin J r
end
/-- the exception's dict, if there is one, is known -/
def XdAt (H : Hp) : Option Addr → Prop
  | none => True
  | some dx => ∃ fs, H dx = some (.xd fs)
section
variable {X : Cx}
theorem inst_exc {pins : List (Addr × Obj)} {σ : St} {H : Hp} {s : Shared} {a D : Addr} {d : Option Addr} (I : Inv X pins σ H s) (h : H a = some (ExcO a (.ref D) d)) (hd : XdAt H d) : ∃ oe od, PySem.W.InstAt s.heap a oe D od := by
  obtain ⟨oe, vs, hget, h1, h2, hv⟩ := (I.hok a _ h).1
  obtain ⟨oc, ob, oda, osl⟩ := oe
  dsimp only at h1 h2 hv
  subst h1 h2 hv
  cases ob with
  | none => exact ⟨_, none, hget, rfl, rfl, trivial⟩
  | some dx =>
    obtain ⟨fs, e⟩ := hd
    obtain ⟨mA, hns, _⟩ := (show ObjOk X.prog X.w H s.heap dx (.xd fs) from I.hok dx _ e)
    obtain ⟨od, ho, _⟩ := lookIn_ns hns
    exact ⟨_, some od, hget, rfl, rfl, ho⟩
def rIsX (K : PySem.W.Frag) : List V → Hp → VK → Prop := fun xs H Q => ∃ (a D : Addr) (d : Option Addr) (c : V) (cv : Value) (b : Bool), xs = [.ref a, c] ∧ (H a = some (ExcO a (.ref D) d) ∧ XdAt H d) ∧ ExcC K D ∧ ClsV c cv ∧ PySem.W.kitOne K (.ref D) cv = some b ∧ Q (.bl b) H
theorem call_isX : CallR X (.builtin "isinstance") (rIsX X.K) := by
  intro pins s σ H xs us Q I r h
  obtain ⟨a, D, d, c, cv, b, rfl, ha, C, hc, e, q⟩ := h
  obtain ⟨u1, u2, rfl, r1, r2⟩ := vals2 r
  cases (show u1 = Value.ref a from r1)
  have ec := hc.eq r2
  subst ec
  obtain ⟨oe, od, J⟩ := inst_exc I ha.1 ha.2
  exact PySem.W.kia_one (exc_kit C) I.kIn J e (fun z => nomatch z) fun tk => ⟨.bl b, H, I.tok tk, rfl, q⟩
def rIsXT (K : PySem.W.Frag) : List V → Hp → VK → Prop := fun xs H Q => ∃ (a D : Addr) (d : Option Addr) (tp : Addr) (cs : List V) (ws : List Value) (b : Bool), xs = [.ref a, .ref tp] ∧ (H a = some (ExcO a (.ref D) d) ∧ XdAt H d) ∧ ExcC K D ∧ H tp = some (.tup cs) ∧ Paired ClsV cs ws ∧ PySem.W.kitAny K (.ref D) ws = some b ∧ Q (.bl b) H
theorem call_isXT : CallR X (.builtin "isinstance") (rIsXT X.K) := by
  intro pins s σ H xs us Q I r h
  obtain ⟨a, D, d, tp, cs, ws, b, rfl, ha, C, hT, k, e, q⟩ := h
  obtain ⟨u1, u2, rfl, r1, r2⟩ := vals2 r
  cases (show u1 = Value.ref a from r1)
  cases (show u2 = Value.ref tp from r2)
  obtain ⟨oe, od, J⟩ := inst_exc I ha.1 ha.2
  obtain ⟨_, its, rv, o, h1, h2, n, h3⟩ := (show ObjOk X.prog X.w H s.heap tp (.tup cs) from I.hok tp _ hT)
  have e3 := ClsV.all k rv
  subst e3
  obtain ⟨oc, od, dt, sl⟩ := o
  simp only at h2 h3
  subst h2 h3
  exact PySem.W.kia_tup (exc_kit C) I.kIn J h1 e (fun z => nomatch z) fun tk => ⟨.bl b, H, I.tok tk, rfl, q⟩
end
/-- a class of the program, and what isinstance says of it for exceptions of other classes -/
structure EisX (K : PySem.W.Frag) (mg : Str → Option Value) (n : Str) (tab : List (Str × Bool)) : Prop where
  ex : ∃ C, mg n = some (.ref C) ∧ ∀ p ∈ tab, ∀ a, ClsAt K p.1 a → ExcC K a ∧ PySem.W.kitOne K (.ref a) (.ref C) = some p.2
theorem lookup_mem {tab : List (Str × Bool)} {m : Str} {b : Bool} (h : tab.lookup m = some b) : (m, b) ∈ tab := by
  induction tab with
  | nil => cases h
  | cons p r ih =>
    obtain ⟨k, v⟩ := p
    rw [List.lookup_cons] at h
    split at h
    · rename_i e
      cases h
      have e : m = k := by simpa using e
      rw [e]
      exact List.mem_cons_self
    · exact List.mem_cons_of_mem _ (ih h)
def lkT (tab : List (Str × Bool)) (m : Str) : Option Bool := tab.lookup m
def excIs (f : Str → Option Bool) (x : D) (P : Bool → Prop) : Prop := match x with
  | .exc m _ => ∃ b, f m = some b ∧ P b
  | _ => False
def cEis (f : Str → Option Bool) (C : Addr) : DRC := fun xs w Q => match xs with
  | [x, .ref c] => c = C ∧ excIs f x fun b => Q (.bl b) w
  | _ => False
theorem rep_exc {K : PySem.W.Frag} {c : Ck} {g : Gh} {w : W} {H : Hp} (R : Rel K c g w H) {v : V} {m : Str} {fs : List (Str × D)} (r : Rep K g v (.exc m fs)) : ∃ a D d, v = .ref a ∧ ClsAt K m D ∧ H a = some (ExcO a (.ref D) d) ∧ XdAt H d := by
  cases r with
  | @exc a D _ od xs _ k h f rf =>
    refine ⟨a, D, od, rfl, k, R.exc h, ?_⟩
    cases od with
    | none => trivial
    | some dx =>
      refine ⟨xs, ?_⟩
      rcases R.imm dx _ f.2 with ⟨_, q⟩ | ⟨o, q, _⟩
      · exact q
      · obtain ⟨u, z⟩ := R.lck dx o q
        rw [f.2] at z
        cases z
section
variable {X : Cx} {Wv : WX} {n : Str} {p p2 pos tp : Pos} {e : Expr} {t : DTE} {tab : List (Str × Bool)}
theorem cd_eis {f : Str → Option Bool} {C : Addr} (hk : ∀ m b a, f m = some b → ClsAt X.K m a → ExcC X.K a ∧ PySem.W.kitOne X.K (.ref a) (.ref C) = some b) : CallD X (.builtin "isinstance") (cEis f C) := by
  refine ⟨_, call_isX, fun c' g w H vs ds Q Qv R r q k => ?_⟩
  unfold cEis at q
  split at q
  · rename_i x a
    obtain ⟨rfl, q⟩ := q
    obtain ⟨v, u, rfl, r1, r2⟩ := r.two
    cases r2
    unfold excIs at q
    split at q
    · obtain ⟨b, hb, q⟩ := q
      obtain ⟨a0, D, dd, rfl, kD, hH⟩ := rep_exc R r1
      obtain ⟨h1, h2⟩ := hk _ b D hb kD
      exact ⟨a0, D, dd, _, _, b, rfl, hH, h1, .own _, h2, k _ _ ⟨g, w, _, .rfl, R, .bl b, q⟩⟩
    · exact q.elim
  · exact q.elim
def dEis (f : Str → Option Bool) (t : DTE) : DTE := fun env w Q => t env w fun x w1 => excIs f x fun b => Q (.bl b) w1
/-- isinstance(e, C) of what was caught -/
theorem de_eis (I : EisX X.K X.mg n tab) (hm : X.mg "isinstance" = none) (he : DE X Wv e t) (hg : Gl X "isinstance" := by rfl) (hg2 : Gl X n := by rfl) (hd2 : (n == ("__debug__" : Str)) = false := by decide)
    (hs : starEach (e :: [.Name n p2]) X.env = (false, eval e X.env) :: starEach [.Name n p2] X.env := by rfl) (hs2 : starEach ([.Name n p2]) X.env = (false, eval (.Name n p2) X.env) :: starEach [] X.env := by rfl) (hpl : (backTo pos (starEach [.Name n p2] X.env)).any (·.1) = false := by rfl) :
    DE X Wv (.Call (.Name "isinstance" p) [e, .Name n p2] [] pos) (dEis (lkT tab) t) := by
  obtain ⟨C, hmC, hk⟩ := I.ex
  refine DE_imp (de_callB (cd_eis (C := C) (f := (lkT tab)) fun m b a h1 h2 => hk (m, b) (lookup_mem h1) a h2) hm (da_cons he (da_cons (de_ref hmC hg2 hd2) da_nil hs2) hs) hg (by decide +kernel) (by decide) (by decide) hs hpl) fun env w Q h => ?_
  show t env w fun x w1 => C = C ∧ excIs (lkT tab) x fun b => Q (.bl b) w1
  have e : (fun x w1 => C = C ∧ excIs (lkT tab) x fun b => Q (.bl b) w1) = fun x (w1 : W) => excIs (lkT tab) x fun b => Q (.bl b) w1 := by
    funext x w1
    exact propext ⟨fun h => h.2, fun h => ⟨rfl, h⟩⟩
  rw [e]
  exact h
/-- isinstance(e, (C, ..)) of what was caught -/
theorem de_eisL {f : Str → Option Bool} {Cs : List Addr} {cs : List Expr} {kk : Nat} (hk : ∀ m b a, f m = some b → ClsAt X.K m a → ExcC X.K a ∧ PySem.W.kitAny X.K (.ref a) (Cs.map .ref) = some b) (hz : Cs.length ≤ sizeLine)
    (hm : X.mg "isinstance" = none) (he : DE X Wv e t) (hcs : DA X Wv cs fun env w Q => Q (Cs.map .ref) w) (hg : Gl X "isinstance" := by rfl)
    (hs1 : starEach [e, .Tuple cs kk tp] X.env = (false, eval e X.env) :: starEach [.Tuple cs kk tp] X.env := by rfl) (hs2 : starEach [.Tuple cs kk tp] X.env = (false, eval (.Tuple cs kk tp) X.env) :: starEach [] X.env := by rfl) (hpl : (backTo pos (starEach [.Tuple cs kk tp] X.env)).any (·.1) = false := by rfl) :
    DE X Wv (.Call (.Name "isinstance" p) [e, .Tuple cs kk tp] [] pos) (dEis f t) := by
  refine ⟨PE_imp (pe_callB call_isXT hg hm (by decide +kernel) (pa_cons he.pe (pa_cons (pe_tup hcs.pa) pa_nil hs2) hs1) (by decide) (by decide) hs1 hpl) fun σ H Qv ⟨c, g, env, w, Q, B, q, k⟩ => ?_⟩
  refine bindE B q fun v H1 g1 w1 x l1 B1 r1 q1 => bindA (t := fun env w Q => Q (Cs.map .ref) w) B1 (Q := fun xs w2 => xs = Cs.map .ref ∧ excIs f x fun b => Q (.bl b) w2) ⟨rfl, q1⟩ fun vs H2 g2 w2 xs l2 B2 r2 q2 => ?_
  obtain ⟨rfl, q2⟩ := q2
  have hl := r2.length
  rw [List.length_map] at hl
  refine ⟨by rw [hl]; exact hz, fun tp hp => ?_⟩
  have l3 := Gh.add_le (o := .tup vs) (B2.R.noG hp)
  have R3 := B2.R.alloc (o := .tup vs) hp
  unfold excIs at q2
  split at q2
  · obtain ⟨b, hb, q2⟩ := q2
    obtain ⟨a0, D, dd, rfl, kD, hH⟩ := rep_exc R3 ((r1.le l2).le l3)
    obtain ⟨h1, h2⟩ := hk _ b D hb kD
    have pr : ∀ {vs : List V} {Cs : List Addr}, RepL X.K g2 vs (Cs.map .ref) → Paired ClsV vs (Cs.map Value.ref) := fun {vs Cs} r => by
      induction Cs generalizing vs with
      | nil => cases r; exact .nil
      | cons C Cs ih =>
        cases r with
        | cons a r => cases a; exact .cons (.own _) (ih r)
    exact ⟨a0, D, dd, tp, vs, _, b, rfl, hH, h1, upd_same, pr r2, h2, k _ _ ⟨_, w2, .bl b, (l1.trans l2).trans l3, R3, .bl b, q2⟩⟩
  · exact q2.elim
theorem kit_or {K : PySem.W.Frag} {t c : Value} {r : List Value} {b d : Bool} (h1 : PySem.W.kitOne K t c = some b) (h2 : PySem.W.kitAny K t r = some d) : PySem.W.kitAny K t (c :: r) = some (b || d) := by
  unfold PySem.W.kitAny
  rw [h1]
  cases b with
  | true => rfl
  | false => exact h2
def orT (tabs : List (List (Str × Bool))) (m : Str) : Option Bool := match tabs with
  | [] => some false
  | t :: r => (t.lookup m).bind fun b => (orT r m).map (b || ·)
variable {n1 n2 n3 n4 : Str} {p1 p3 p4 : Pos} {t1 t2 t3 t4 : List (Str × Bool)} {kk : Nat}
theorem de_eis2 (I1 : EisX X.K X.mg n1 t1) (I2 : EisX X.K X.mg n2 t2) (hm : X.mg "isinstance" = none) (he : DE X Wv e t) (hg : Gl X "isinstance" := by rfl) (g1 : Gl X n1 := by rfl) (g2 : Gl X n2 := by rfl) (d1 : (n1 == ("__debug__" : Str)) = false := by decide) (d2 : (n2 == ("__debug__" : Str)) = false := by decide)
    (hs1 : starEach [e, .Tuple [.Name n1 p1, .Name n2 p2] kk tp] X.env = (false, eval e X.env) :: starEach [.Tuple [.Name n1 p1, .Name n2 p2] kk tp] X.env := by rfl)
    (hs2 : starEach [.Tuple [.Name n1 p1, .Name n2 p2] kk tp] X.env = (false, eval (.Tuple [.Name n1 p1, .Name n2 p2] kk tp) X.env) :: starEach [] X.env := by rfl) (hpl : (backTo pos (starEach [.Tuple [.Name n1 p1, .Name n2 p2] kk tp] X.env)).any (·.1) = false := by rfl)
    (h3 : starEach [.Name n1 p1, .Name n2 p2] X.env = (false, eval (.Name n1 p1) X.env) :: starEach [.Name n2 p2] X.env := by rfl) (h4 : starEach [.Name n2 p2] X.env = (false, eval (.Name n2 p2) X.env) :: starEach [] X.env := by rfl) :
    DE X Wv (.Call (.Name "isinstance" p) [e, .Tuple [.Name n1 p1, .Name n2 p2] kk tp] [] pos) (dEis (orT [t1, t2]) t) := by
  obtain ⟨C1, m1, k1⟩ := I1.ex
  obtain ⟨C2, m2, k2⟩ := I2.ex
  refine de_eisL (Cs := [C1, C2]) (fun m b a h1 h2 => ?_) (by rw [sizeLine_eq]; exact Nat.le_of_ble_eq_true rfl) hm he (da_cons (de_ref m1 g1 d1) (da_cons (de_ref m2 g2 d2) da_nil h4) h3) hg hs1 hs2 hpl
  simp only [orT, Option.bind_eq_some_iff, Option.map_eq_some_iff] at h1
  obtain ⟨b1, q1, x1, ⟨b2, q2, x2, e2, e3⟩, e4⟩ := h1
  obtain ⟨y1, y2⟩ := k1 (m, b1) (lookup_mem q1) a h2
  obtain ⟨y3, y4⟩ := k2 (m, b2) (lookup_mem q2) a h2
  cases e2
  subst e3 e4
  exact ⟨y1, kit_or y2 (kit_or y4 rfl)⟩
theorem de_eis3 (I1 : EisX X.K X.mg n1 t1) (I2 : EisX X.K X.mg n2 t2) (I3 : EisX X.K X.mg n3 t3) (hm : X.mg "isinstance" = none) (he : DE X Wv e t) (hg : Gl X "isinstance" := by rfl) (g1 : Gl X n1 := by rfl) (g2 : Gl X n2 := by rfl) (g3 : Gl X n3 := by rfl) (d1 : (n1 == ("__debug__" : Str)) = false := by decide) (d2 : (n2 == ("__debug__" : Str)) = false := by decide) (d3 : (n3 == ("__debug__" : Str)) = false := by decide)
    (hs1 : starEach [e, .Tuple [.Name n1 p1, .Name n2 p2, .Name n3 p3] kk tp] X.env = (false, eval e X.env) :: starEach [.Tuple [.Name n1 p1, .Name n2 p2, .Name n3 p3] kk tp] X.env := by rfl)
    (hs2 : starEach [.Tuple [.Name n1 p1, .Name n2 p2, .Name n3 p3] kk tp] X.env = (false, eval (.Tuple [.Name n1 p1, .Name n2 p2, .Name n3 p3] kk tp) X.env) :: starEach [] X.env := by rfl) (hpl : (backTo pos (starEach [.Tuple [.Name n1 p1, .Name n2 p2, .Name n3 p3] kk tp] X.env)).any (·.1) = false := by rfl)
    (h3 : starEach [.Name n1 p1, .Name n2 p2, .Name n3 p3] X.env = (false, eval (.Name n1 p1) X.env) :: starEach [.Name n2 p2, .Name n3 p3] X.env := by rfl) (h4 : starEach [.Name n2 p2, .Name n3 p3] X.env = (false, eval (.Name n2 p2) X.env) :: starEach [.Name n3 p3] X.env := by rfl) (h5 : starEach [.Name n3 p3] X.env = (false, eval (.Name n3 p3) X.env) :: starEach [] X.env := by rfl) :
    DE X Wv (.Call (.Name "isinstance" p) [e, .Tuple [.Name n1 p1, .Name n2 p2, .Name n3 p3] kk tp] [] pos) (dEis (orT [t1, t2, t3]) t) := by
  obtain ⟨C1, m1, k1⟩ := I1.ex
  obtain ⟨C2, m2, k2⟩ := I2.ex
  obtain ⟨C3, m3, k3⟩ := I3.ex
  refine de_eisL (Cs := [C1, C2, C3]) (fun m b a h1 h2 => ?_) (by rw [sizeLine_eq]; exact Nat.le_of_ble_eq_true rfl) hm he (da_cons (de_ref m1 g1 d1) (da_cons (de_ref m2 g2 d2) (da_cons (de_ref m3 g3 d3) da_nil h5) h4) h3) hg hs1 hs2 hpl
  simp only [orT, Option.bind_eq_some_iff, Option.map_eq_some_iff] at h1
  obtain ⟨b1, q1, x1, ⟨b2, q2, x2, ⟨b3, q3, x3, e1, e2⟩, e3⟩, e4⟩ := h1
  obtain ⟨y1, y2⟩ := k1 (m, b1) (lookup_mem q1) a h2
  obtain ⟨y3, y4⟩ := k2 (m, b2) (lookup_mem q2) a h2
  obtain ⟨y5, y6⟩ := k3 (m, b3) (lookup_mem q3) a h2
  cases e1
  subst e2 e3 e4
  exact ⟨y1, kit_or y2 (kit_or y4 (kit_or y6 rfl))⟩
end
/-! the facts, one by one -/
theorem Ec.ofC {K : PySem.W.Frag} {mg : Str → Option Value} {h : Heap} {C : Addr} {R : Prop} (n : Str) (X : K.In h) (G : h.Ns mainGlobals mg) (a : PySem.W.nsIn K mainGlobals n = some (some (.ref C))) (r : ClsAt K n C → mg n = some (.ref C) → R) : R := r a (PySem.W.mg_of X G a)
theorem ExX.of {K : PySem.W.Frag} {mg : Str → Option Value} {n : Str} {C : Addr} (k : ClsAt K n C) (m : mg n = some (.ref C)) (a : PySem.W.keepIn K (.ref C) = true) (b : PySem.W.excIn K C [.type "ValueError", .type "Exception", .type "BaseException", .type "object"] "ValueError.__new__" = true)
    (c : PySem.W.subIn K (.ref C) (.type "BaseException") = some true) (d : PySem.W.typeIn K (.ref C) = some (.type "type")) : ExX K mg n := ⟨⟨C, k, m, a, b, c, d⟩⟩
theorem ExcC.of {K : PySem.W.Frag} {D : Addr} (hg : PySem.W.findIn K (.ref D) "__getattribute__" = some (some (.builtin "BaseException.__getattribute__"))) (hk : PySem.W.findIn K (.ref D) "__getattr__" = some none) (hs : PySem.W.subIn K (.ref D) (.type "BaseException") = some true) (hd : PySem.W.hasDictIn K D = true)
    (ha : PySem.W.findIn K (.ref D) "__class__" = some (some (.builtin "object.__class__"))) (hn : PySem.W.specialIn K (.builtin "object.__class__") "__get__" = some (some (.builtin "getset_descriptor.__get__"))) (ht : PySem.W.takesIn K (.builtin "object.__class__") = some true) (hm : PySem.W.mroIn K D (.type "object") = some true) : ExcC K D :=
  ⟨hg, hk, hs, hd, ha, hn, ht, hm⟩
def EisB (K : PySem.W.Frag) (C : Addr) (tab : List (Str × Bool)) : Prop := ∀ p ∈ tab, ∀ a, ClsAt K p.1 a → ExcC K a ∧ PySem.W.kitOne K (.ref a) (.ref C) = some p.2
theorem EisB.nil {K : PySem.W.Frag} {C : Addr} : EisB K C [] := fun _ h => nomatch h
theorem EisB.cons {K : PySem.W.Frag} {C A : Addr} {m : Str} {b : Bool} {tab : List (Str × Bool)} (k : ClsAt K m A) (x : ExcC K A) (e : PySem.W.kitOne K (.ref A) (.ref C) = some b) (r : EisB K C tab) : EisB K C ((m, b) :: tab) := fun p hp a ka => by
  rcases List.mem_cons.mp hp with rfl | hp
  · cases k.eq ka
    exact ⟨x, e⟩
  · exact r p hp a ka
theorem EisX.of {K : PySem.W.Frag} {mg : Str → Option Value} {n : Str} {C : Addr} {tab : List (Str × Bool)} (m : mg n = some (.ref C)) (b : EisB K C tab) : EisX K mg n tab := ⟨⟨C, m, b⟩⟩
theorem kit_own {K : PySem.W.Frag} {A C : Addr} {b : Bool} (hc : PySem.W.isClsIn K C = true) (ht : PySem.W.typeIn K (.ref C) = some (.type "type")) (hs : PySem.W.subIn K (.ref A) (.ref C) = some b) : PySem.W.kitCls K (.ref A) (.ref C) = some b := by
  unfold PySem.W.kitCls
  have hc : (PySem.W.clsIn K C).isSome = true := hc
  dsimp only
  rw [hc, ht]
  rw [if_pos (by simp)]
  exact hs
theorem kit_ne {K : PySem.W.Frag} {A C : Addr} {b : Bool} (hn : (A == C) = false) (hc : PySem.W.isClsIn K C = true) (ht : PySem.W.typeIn K (.ref C) = some (.type "type")) (hs : PySem.W.subIn K (.ref A) (.ref C) = some b) : PySem.W.kitOne K (.ref A) (.ref C) = some b := by
  unfold PySem.W.kitOne
  rw [if_neg (fun z => by
    have e : Value.ref A = Value.ref C := by simpa using z
    cases e
    simp at hn)]
  exact kit_own hc ht hs
theorem kit_eq {K : PySem.W.Frag} {A : Addr} : PySem.W.kitOne K (.ref A) (.ref A) = some true := by
  unfold PySem.W.kitOne
  rw [if_pos (by simp)]
theorem exm_own {K : PySem.W.Frag} {A C : Addr} (hb : PySem.W.subIn K (.ref C) (.type "BaseException") = some true) (hc : PySem.W.isClsIn K C = true) (ht : PySem.W.typeIn K (.ref C) = some (.type "type")) (hs : PySem.W.subIn K (.ref A) (.ref C) = some true) : PySem.W.exmOne K (.ref A) (.ref C) = some true := by
  unfold PySem.W.exmOne
  rw [hb]
  exact kit_own hc ht hs
def CatB (K : PySem.W.Frag) (C : Addr) (cs : List Str) : Prop := ∀ m ∈ cs, ∀ a, ClsAt K m a → PySem.W.exmOne K (.ref a) (.ref C) = some true
theorem CatB.nil {K : PySem.W.Frag} {C : Addr} : CatB K C [] := fun _ h => nomatch h
theorem CatB.cons {K : PySem.W.Frag} {C A : Addr} {m : Str} {cs : List Str} (k : ClsAt K m A) (e : PySem.W.exmOne K (.ref A) (.ref C) = some true) (r : CatB K C cs) : CatB K C (m :: cs) := fun p hp a ka => by
  rcases List.mem_cons.mp hp with rfl | hp
  · cases k.eq ka
    exact e
  · exact r p hp a ka
theorem CatX.of {K : PySem.W.Frag} {mg : Str → Option Value} {n : Str} {C : Addr} {cs : List Str} (m : mg n = some (.ref C)) (b : CatB K C cs) : CatX K mg n cs := ⟨⟨C, m, b⟩⟩
end DL

/-! DLzl: isinstance of what was caught and a built-in class. -/
namespace DL
open PySem PySem.Spec PyProof.Rows L2
/-- a built-in class, and what isinstance says of it for exceptions of the classes -/
structure EisY (K : PySem.W.Frag) (n : String) (tab : List (Str × Bool)) : Prop where
  ex : ∀ p ∈ tab, ∀ a, ClsAt K p.1 a → ExcC K a ∧ PySem.W.kitOne K (.ref a) (.type n) = some p.2
theorem EisY.nil {K : PySem.W.Frag} {n : String} : EisY K n [] := ⟨fun _ h => nomatch h⟩
theorem kit_ty {K : PySem.W.Frag} {A : Addr} {n : String} {b : Bool} (hm : PySem.W.kitMeta n = true) (hs : PySem.W.subIn K (.ref A) (.type n) = some b) : PySem.W.kitOne K (.ref A) (.type n) = some b := by
  unfold PySem.W.kitOne
  rw [if_neg (fun z => by
    have e : Value.ref A = Value.type n := by simpa using z
    cases e)]
  unfold PySem.W.kitCls
  dsimp only
  rw [if_pos hm]
  exact hs
theorem EisY.cons {K : PySem.W.Frag} {A : Addr} {n : String} {m : Str} {b : Bool} {tab : List (Str × Bool)} (k : ClsAt K m A) (x : ExcC K A) (hm : PySem.W.kitMeta n = true) (hs : PySem.W.subIn K (.ref A) (.type n) = some b) (r : EisY K n tab) : EisY K n ((m, b) :: tab) := ⟨fun p hp a ka => by
  rcases List.mem_cons.mp hp with rfl | hp
  · cases k.eq ka
    exact ⟨x, kit_ty hm hs⟩
  · exact r.ex p hp a ka⟩
def cEisY (f : Str → Option Bool) (n : String) : DRC := fun xs w Q => match xs with
  | [x, .ty m] => m = n ∧ excIs f x fun b => Q (.bl b) w
  | _ => False
section
variable {X : Cx} {Wv : WX} {n : String} {p p2 pos tp : Pos} {e : Expr} {t : DTE} {tab : List (Str × Bool)}
theorem cd_eisY (I : EisY X.K n tab) : CallD X (.builtin "isinstance") (cEisY (lkT tab) n) := by
  refine ⟨_, call_isX, fun c' g w H vs ds Q Qv R r q k => ?_⟩
  unfold cEisY at q
  split at q
  · obtain ⟨rfl, q⟩ := q
    obtain ⟨v, u, rfl, r1, r2⟩ := r.two
    cases r2
    unfold excIs at q
    split at q
    · obtain ⟨b, hb, q⟩ := q
      obtain ⟨a0, D, dd, rfl, kD, hH⟩ := rep_exc R r1
      obtain ⟨h1, h2⟩ := I.ex _ (lookup_mem hb) D kD
      exact ⟨a0, D, dd, _, _, b, rfl, hH, h1, .ty _, h2, k _ _ ⟨g, w, _, .rfl, R, .bl b, q⟩⟩
    · exact q.elim
  · exact q.elim
end
end DL

/-! DLzm: list.count over data. -/
namespace DL
open PySem PySem.Spec PyProof.Rows L2
def shapedAll (ps : List PyData) : Bool := ps.all SeqAt.shaped
def countIn (xs : List D) (y : D) (w : W) (Q : DK) : Prop := ∃ ps p, toPyL xs = some ps ∧ toPy y = some p ∧ shapedAll ps = true ∧ SeqAt.shaped p = true ∧ Q (.int ((ps.countP fun q => PyData.eqv q p : Nat) : Int)) w
def countR : D → DRC := fun x ds w Q => match x, ds with
  | .lst xs, [y] => countIn xs y w Q
  | .ref p, [y] => ∃ xs, w.m p = some (.lst xs) ∧ countIn xs y w Q
  | _, _ => False
section
variable {X : Cx}
/-- what a value's data answer to == -/
noncomputable def cntE (h : Heap) (p : PyData) (v : Value) : Bool := @decide (∃ q as, Reads h v q as ∧ PyData.eqv q p = true) (Classical.propDecidable _)
theorem cntE_of {h : Heap} {p q : PyData} {v : Value} {as : List Addr} (r : Reads h v q as) : cntE h p v = PyData.eqv q p := by
  unfold cntE
  rw [Bool.eq_iff_iff, @decide_eq_true_iff _ (Classical.propDecidable _)]
  constructor
  · rintro ⟨q', as', r', e⟩
    obtain ⟨rfl, _⟩ := Reads.unique r _ _ r'
    exact e
  · intro e
    exact ⟨q, as, r, e⟩
theorem cntE_all {h : Heap} {p : PyData} : ∀ {us : List Value} {ps : List PyData} {as : List Addr}, ReadsAll h us ps as → us.countP (cntE h p) = ps.countP fun q => PyData.eqv q p
  | _, _, _, .nil => rfl
  | _, _, _, .cons r t => by
    rw [List.countP_cons, List.countP_cons, cntE_all t, cntE_of r]
theorem reads_mem {h : Heap} : ∀ {us : List Value} {ps : List PyData} {as : List Addr}, ReadsAll h us ps as → ∀ u ∈ us, ∃ q bs, Reads h u q bs ∧ q ∈ ps
  | _, _, _, .nil => fun u hu => by cases hu
  | _, _, _, .cons r t => fun u hu => by
    rcases List.mem_cons.mp hu with rfl | hu
    · exact ⟨_, _, r, List.mem_cons_self⟩
    · obtain ⟨q, bs, a, b⟩ := reads_mem t u hu
      exact ⟨q, bs, a, List.mem_cons_of_mem _ b⟩
def rCntD (X : Cx) : V → List V → Hp → VK → Prop := fun x xs H Q => ∃ (c : Ck) (g : Gh) (w : W) (a : Addr) (ys : List V) (ds : List D) (u : V) (y : D) (ps : List PyData) (p : PyData), x = .ref a ∧ xs = [u] ∧ Rel X.K c g w H ∧ SqL X.K H a ys ∧ RepL X.K g ys ds ∧ Rep X.K g u y ∧
  toPyL ds = some ps ∧ toPy y = some p ∧ shapedAll ps = true ∧ SeqAt.shaped p = true ∧ Q (.int ((ps.countP fun q => PyData.eqv q p : Nat) : Int)) H
theorem mt_lcountD (hu : X.A.units + 150 < cLine) : MtR X "list.count" (rCntD X) := by
  intro pins s σ H x xs v us Q I rx rxs h
  obtain ⟨c, g, w, a, ys, ds, u, y, ps, p, rfl, rfl, R, hs, rl, r2, e1, e2, h1, h2, q⟩ := h
  cases rx
  obtain ⟨u', rfl, ru⟩ := rxs.one
  obtain ⟨its, rv, ⟨⟨cls, dd, data, sl⟩, n, ho, hc, hdn, hd⟩, hlen⟩ := I.list hs
  simp only at hc hd
  subst hc hd
  obtain ⟨as, ra, _⟩ := RepL.reads I R rl e1 rv
  obtain ⟨bs, rb, _⟩ := Rep.reads I R r2 e2 ru
  refine call_meets PySem.F.slot_list_count ⟨_, ho, rfl⟩ PySem.F.entry_list_count (PySem.F.args_list_count_2 _ _)
    (SeqAt.list_countAt a its.toArray n dd sl u' (cntE s.heap p)) ⟨ho, fun z hz => ?_, ?_⟩
  · obtain ⟨q', cs, rq, hm⟩ := reads_mem ra z (by simpa using hz)
    have hq := List.all_eq_true.mp h1 q' hm
    rw [cntE_of rq]
    refine SeqAt.eqAt_reads q' p _ s z u' cs bs rq rb (SeqAt.canLay_of_shaped hq) (SeqAt.canLay_of_shaped h2) (SeqAt.room_of_shaped hq ?_)
    show X.A.units + 1 + 64 < cLine
    omega
  · have ec : its.toArray.toList.countP (cntE s.heap p) = ps.countP fun q => PyData.eqv q p := cntE_all ra
    refine ⟨.int _, H, I.tok _, ⟨s.toks, ?_⟩, q⟩
    show Value.int ((its.toArray.toList.countP (cntE s.heap p) : Nat) : Int) s.toks = Value.int _ s.toks
    rw [ec]
theorem md_count (hu : X.A.units + 150 < cLine) : MtD X "list.count" countR := by
  refine ⟨_, mt_lcountD hu, fun c g w H v x vs ds Q Qv R r1 r2 q k => ?_⟩
  unfold countR at q
  split at q
  · obtain ⟨u, rfl, a⟩ := r2.one
    obtain ⟨ps, p, e1, e2, h1, h2, q⟩ := q
    cases r1 with
    | lst s r => exact ⟨c, g, w, _, _, _, u, _, ps, p, rfl, rfl, R, R.sqL s, r, a, e1, e2, h1, h2, k _ _ ⟨g, w, _, .rfl, R, .int _, q⟩⟩
  · obtain ⟨u, rfl, a⟩ := r2.one
    cases r1
    obtain ⟨xs, em, ps, p, e1, e2, h1, h2, q⟩ := q
    obtain ⟨ys, e3, r⟩ := R.mlst em
    exact ⟨c, g, w, _, _, _, u, _, ps, p, rfl, rfl, R, SqL.of e3, r, a, e1, e2, h1, h2, k _ _ ⟨g, w, _, .rfl, R, .int _, q⟩⟩
  · exact q.elim
end
end DL

/-! DLzn: set comprehensions, their sets at once counted or sorted. -/
namespace DL
open PySem PySem.Spec PyProof.Rows L2 PpSet
/-- what a set that is being made is told as: its object by what was put in -/
structure SKit (X : Cx) (β : Type) where
  ho : Addr → List β → HO
  ok : Hp → Addr → List β → V → β → Prop
  mu : ∀ a bs, Mut (some (ho a bs))
  fresh : ∀ {G : Hp} {hp : Heap}, ObjOk X.prog X.w G (hp.push { cls := .type "set", dict := none, data := .set #[] 0 (.fresh 0 0 (!X.w.params.followText "set-order")) }) hp.objs.size (ho hp.objs.size [])
  add : ∀ {Y : Cx}, Y.prog = X.prog → Y.w = X.w → Y.K = X.K → Y.A = X.A → ∀ {pp : List (Addr × Obj)} {ρ : St} {G : Hp} {st : Shared} {Er : Value → Shared → Prop} {S : Addr} {bs : List β} {v : V} {u : Value} {b : β} {Z : Value → Shared → Prop},
    Inv Y pp ρ G st → G S = some (ho S bs) → RelV v u → ok G S bs v b → (∀ st', Inv Y pp ρ (upd G S (ho S (bs ++ [b]))) st' → Z .none st') → wpAny (model Y.prog Y.w) Y.A (call (.builtin "set.add") [.ref S, u]) Z Er st
section
variable {X : Cx} {β : Type}
/-- {elt for target in iter if ..}: S the new set -/
def tScG (sk : SKit X β) (wi : TI) (tg : TG) (tt : TT) (te : TE) (vs : List Nat) : TE := fun ρ G Z => wi ρ G fun J G1 => ∀ S, G1 S = none → ∃ M : Nat → Nat → Hp → Prop, (∃ m, M 0 m (upd G1 S (sk.ho S []))) ∧ ∀ i m G, M i m G →
  (J.stop i G ∧ Z (.ref S) G) ∨ (J.go i G ∧ ∃ Nx : Hp → Prop, (∀ G', Nx G' → ∃ m', m' < m ∧ M (i + 1) m' G') ∧ ∀ x G', J.yld i G x G' → tg x (wipe ρ vs) G' fun ρ2 G2 => wipe ρ2 vs = wipe ρ vs ∧ tt ρ2 G2 fun z G3 =>
    if z = true then te ρ2 G3 fun y G4 => ∃ (bs : List β) (b : β), G4 S = some (sk.ho S bs) ∧ sk.ok G4 S bs y b ∧ Nx (upd G4 S (sk.ho S (bs ++ [b]))) else Nx G3)
theorem scG_core (sk : SKit X β) {pp : List (Addr × Obj)} {st : Shared} {ρ : St} {G : Hp} {Z : VK} {elt tgt itr : Expr} {cs : List Expr} {sco : Scope} {own : List (Str × Nat)} {ps ps' : Pos} {wi : TI} {tg : TG} {tt : TT} {te : TE} {use : Option (Value → Sem Unit)} {Zf : Value → Shared → Prop}
    (calm : X.calm = true) (nd : X.N.Nodup) (J0 : Inv X pp ρ G st) (hw : PI X tgt itr wi) (blk : BlkOk X.N X.env.scope sco own)
    (h1 : ∀ (st : Shared) (G : Hp) (C : Addr) (cl : List (Str × Addr)) (fp : List Addr), PG (X.blk st G sco (compEnvC sco cl C X.env) fp) tgt tg) (h2 : ∀ (st : Shared) (G : Hp) (C : Addr) (cl : List (Str × Addr)) (fp : List Addr), PTs (X.blk st G sco (compEnvC sco cl C X.env) fp) cs tt)
    (h3 : ∀ (st : Shared) (G : Hp) (C : Addr) (cl : List (Str × Addr)) (fp : List Addr), PE (X.blk st G sco (compEnvC sco cl C X.env) fp) elt te) (fold : ∀ x, foldedSetIterable itr X.env x = pure x)
    (rd : tScG sk wi tg tt te (own.map (·.2)) ρ G Z)
    (post : ∀ S C st' m G', Inv X pp ρ G' st' → Z (.ref S) G' → st'.heap.Ns C m → FpOk X pp G' C → compPost (model X.prog X.w) X.A X.xe use Zf (.ref S) C (.ok .next) st') :
    wpAny (model X.prog X.w) X.A (comprehension (.SetComp elt [⟨tgt, itr, cs, 0⟩] sco ps) sco X.env ps' (newSet (.type "set")) false (eval itr X.env) use) Zf X.xe st := by
  have cells : ∀ y ∈ sco.names, y.2 = .free → ∃ c, X.env.cells.lookup y.1 = some c := fun y hy e => (blk.free y hy e).elim (fun k => J0.ok.has _ (.inl k)) fun k => J0.ok.has _ (.inr k)
  refine wpAny_comprehension_free (use := use) rfl fold (closure_ok cells) blk.kind (fun y hy e => by rw [blk.uniq y hy, e]) ?_
  refine thn (hw.run pp st ρ G _ J0 rd) fun x1 st1 hx => thn hx fun x2 st2 hy => ?_
  obtain ⟨at2, fp, tn, J, G2, e2, J2, TT2, c2, free2, q2⟩ := hy
  subst e2
  refine newSet_ok (newEnv_comp ?_)
  generalize eS : st2.heap.objs.size = S
  have hS : G2 S = none := J2.hok.fresh (Nat.le_of_eq eS)
  obtain ⟨M, ⟨m0, hM0⟩, turn⟩ := q2 S hS
  generalize est3 : ({ st2 with heap := st2.heap.push { cls := .type "set", dict := none, data := .set #[] 0 (.fresh 0 0 (!X.w.params.followText "set-order")) } } : Shared) = st3
  have J3 : Inv X pp ρ (upd G2 S (sk.ho S [])) st3 := by
    subst est3
    refine J2.laid (t' := st2.toks) (fun b o e => Heap.get?_push_of_some _ e) (Nat.le_of_eq eS) ?_
    subst eS
    exact sk.fresh
  have eh3 : st3.heap = st2.heap.push { cls := .type "set", dict := none, data := .set #[] 0 (.fresh 0 0 (!X.w.params.followText "set-order")) } := by rw [← est3]
  have low : ∀ b ∈ fp, b < st2.heap.objs.size := fun b hb => by
    obtain ⟨o, e, _⟩ := TT2.obj _ _ c2 b hb
    exact Heap.lt_size e
  have free3 : ∀ b ∈ fp, FpOk X pp (upd G2 S (sk.ho S [])) b ∧ b < st3.heap.objs.size := fun b hb => by
    have lt := low b hb
    refine ⟨⟨?_, (free2 b hb).2⟩, by rw [eh3, Heap.size_push]; exact Nat.lt_succ_of_lt lt⟩
    rw [upd_ne (by rw [← eS]; exact Nat.ne_of_lt lt)]
    exact (free2 b hb).1
  have c3 : tn 0 st3.heap := TT2.keep _ _ _ c2 fun b _ o e => by rw [eh3]; exact Heap.get?_push_of_some _ e
  have J4 := block_start J3 blk nd free3
  have kg := h1 st3 (upd G2 S (sk.ho S [])) st3.heap.objs.size (cellsFrom (st3.heap.objs.size + 1) sco.names (cloFrom X.env.cells sco.names [])) fp
  have kt := h2 st3 (upd G2 S (sk.ho S [])) st3.heap.objs.size (cellsFrom (st3.heap.objs.size + 1) sco.names (cloFrom X.env.cells sco.names [])) fp
  have ke := h3 st3 (upd G2 S (sk.ho S [])) st3.heap.objs.size (cellsFrom (st3.heap.objs.size + 1) sco.names (cloFrom X.env.cells sco.names [])) fp
  show codeAny _ _ (.compStart (.SetComp elt [⟨tgt, itr, cs, 0⟩] sco ps) 0 (.ref at2) (.ref S) (compEnvC sco (cellsFrom (st3.heap.objs.size + 1) sco.names (cloFrom X.env.cells sco.names [])) st3.heap.objs.size X.env)) (compPost (model X.prog X.w) X.A X.xe use Zf (.ref S) st3.heap.objs.size) { st3 with heap := pushCells (st3.heap.push { cls := .type "dict", data := .dict #[] }) sco.names }
  have out3 : ∀ b ∈ fp, (upd G2 S (sk.ho S [])) b = none := fun b hb => (free3 b hb).1.1
  generalize ece : compEnvC sco (cellsFrom (st3.heap.objs.size + 1) sco.names (cloFrom X.env.cells sco.names [])) st3.heap.objs.size X.env = ce at J4 kg kt ke ⊢
  have loc3 : ce.locals = st3.heap.objs.size := by subst ece; rfl
  generalize eG3 : upd G2 S (sk.ho S []) = G3 at J3 J4 kg kt ke hM0 out3 free3
  generalize est4 : ({ st3 with heap := pushCells (st3.heap.push { cls := .type "dict", data := .dict #[] }) sco.names } : Shared) = st4 at J4 ⊢
  have c4 : tn 0 st4.heap := TT2.keep _ _ _ c3 fun b _ o e => by rw [← est4]; exact pushCells_keeps _ _ _ _ (Heap.get?_push_of_some _ e)
  have away : ∀ {ρ' : St} {G' : Hp} {st' : Shared}, Inv (X.blk st3 G3 sco ce fp) [] ρ' G' st' → (∀ b ∈ fp, G' b = none) → ∀ b ∈ fp, FpOk (X.blk st3 G3 sco ce fp) [] G' b := fun {ρ' G' st'} J' hn b hb =>
    ⟨hn b hb, (J'.ok.exf b hb).1, J'.ok.exfs b hb, .inl hb, fun x c e => (J'.ok.exf b hb).2 x c e, fun p hp => absurd (show p ∈ ([] : List (Addr × Obj)) ++ [] from hp) (by simp)⟩
  refine codeAny_compStart_set ?_ (TT2.self X.A 0 _ _ _ c4 ?_) <;>
  · refine compLoopS_any (fun n st' => ∃ i G', Inv (X.blk st3 G3 sco ce fp) [] (wipe ρ (own.map (·.2))) G' st' ∧ tn i st'.heap ∧ (∀ b ∈ fp, G' b = none) ∧ M i n G') ?_ m0 ⟨0, G3, J4, c4, out3, hM0⟩
    rintro n st5 ⟨i, G5, J5, c5, out5, hM5⟩
    rcases turn i n G5 hM5 with ⟨stop, fine⟩ | ⟨go, Nx, hNx, step⟩
    · refine thnF (TT2.done (X.blk st3 G3 sco ce fp) rfl rfl rfl calm i [] st5 _ G5 (fun _ _ => False) J5 (away J5 out5) c5 stop) fun r st6 ⟨hr, J6⟩ => ?_
      subst hr
      have J7 : Inv X pp ρ G5 st6 := J3.call' (ch := fp) J6.os J6.base J6.hok J6.bare fun b hb => ⟨(free3 b hb).1.2.2.2.1, (free3 b hb).1.2.1, (free3 b hb).1.2.2.2.2.1, (free3 b hb).1.2.2.2.2.2⟩
      have noC : G5 st3.heap.objs.size = none := by
        have z : G5 ce.locals = none := J6.free
        rw [loc3] at z
        exact z
      obtain ⟨m, hn, _⟩ := J6.loc
      have hn : st6.heap.Ns ce.locals m := hn
      rw [loc3] at hn
      exact post S st3.heap.objs.size st6 m G5 J7 fine hn (J3.fpOk (Nat.le_refl _) noC)
    · refine thnF (TT2.item (X.blk st3 G3 sco ce fp) rfl rfl rfl calm i [] st5 _ G5 (fun _ _ => False) J5 (away J5 out5) c5 go) fun r st6 ⟨u, hr, h6⟩ => ?_
      subst hr
      refine thnF h6 fun _ st7 ⟨x, G7, J7, r7, y7, c7, out7⟩ => ?_
      have J7' := J7.pinned (away J7 out7) (TT2.obj _ _ c7)
      refine thnF (kg.run _ st7 _ G7 x u _ J7' r7 (step x G7 y7)) fun _ st8 ⟨ρ8, G8, J8, w8, q8⟩ => ?_
      refine thnF (kt.run _ st8 ρ8 G8 _ J8 q8) fun z st9 ⟨G9, J9, q9⟩ => ?_
      have fin : ∀ {st' : Shared} {G' : Hp}, Inv (X.blk st3 G3 sco ce fp) ([] ++ pinsAt fp st7.heap) ρ8 G' st' → Nx G' → ∃ m, m < n ∧ ∃ i G', Inv (X.blk st3 G3 sco ce fp) [] (wipe ρ (own.map (·.2))) G' st' ∧ tn i st'.heap ∧ (∀ b ∈ fp, G' b = none) ∧ M i m G' := fun {st' G'} J' nx => by
        obtain ⟨m', hm, w'⟩ := hNx G' nx
        have pin' : ∀ b ∈ fp, ∀ o, st7.heap.get? b = some o → st'.heap.get? b = some o ∧ G' b = none := fun b hb o e =>
          let k := J'.pin (b, o) (List.mem_append_right _ (List.mem_append_right _ (mem_pinsAt hb e)))
          ⟨k.1, k.2.1⟩
        have len8 : (wipe ρ (own.map (·.2))).length = ρ8.length := by rw [← w8, wipe_length]
        refine ⟨m', hm, i + 1, G', (J'.unpinned (pins := [])).weak len8 (fun j v e => ?_), TT2.keep _ _ _ c7 fun b hb o e => (pin' b hb o e).1, fun b hb => ?_, w'⟩
        · rw [← w8] at e
          exact (wipe_some e).1
        · obtain ⟨o, e, _⟩ := TT2.obj _ _ c7 b hb
          exact (pin' b hb o e).2
      cases z with
      | false =>
        simp only [Bool.false_eq_true, if_false] at q9 ⊢
        exact fin J9 q9
      | true =>
        simp only [if_true] at q9 ⊢
        refine thnF (ke.run _ st9 ρ8 G9 _ J9 q9) fun u10 st10 ⟨y, G10, J10, r10, bs, b, at10, ok10, nx⟩ => ?_
        exact sk.add (Y := X.blk st3 G3 sco ce fp) rfl rfl rfl rfl J10 at10 r10 ok10 fun st11 J11 => fin J11 nx
theorem pe_scG (sk : SKit X β) {elt tgt itr : Expr} {cs : List Expr} {sco : Scope} {own : List (Str × Nat)} {ps : Pos} {wi : TI} {tg : TG} {tt : TT} {te : TE} (calm : X.calm = true) (nd : X.N.Nodup) (hw : PI X tgt itr wi) (blk : BlkOk X.N X.env.scope sco own)
    (h1 : ∀ (st : Shared) (G : Hp) (C : Addr) (cl : List (Str × Addr)) (fp : List Addr), PG (X.blk st G sco (compEnvC sco cl C X.env) fp) tgt tg) (h2 : ∀ (st : Shared) (G : Hp) (C : Addr) (cl : List (Str × Addr)) (fp : List Addr), PTs (X.blk st G sco (compEnvC sco cl C X.env) fp) cs tt)
    (h3 : ∀ (st : Shared) (G : Hp) (C : Addr) (cl : List (Str × Addr)) (fp : List Addr), PE (X.blk st G sco (compEnvC sco cl C X.env) fp) elt te) (fold : ∀ x, foldedSetIterable itr X.env x = pure x) :
    PE X (.SetComp elt [⟨tgt, itr, cs, 0⟩] sco ps) (tScG sk wi tg tt te (own.map (·.2))) := by
  refine ⟨fun pp st ρ G Z J0 rd => ?_⟩
  rw [eval_SetComp]
  refine scG_core sk calm nd J0 hw blk h1 h2 h3 fold rd fun S C st' m G' J' q hn f => ⟨m, hn, fun h'' sb => ?_⟩
  obtain ⟨f0, f1, f2, f3, f4, f5⟩ := f
  exact ⟨.ref S, G', J'.turned (t' := st'.toks) (fun b o hb e => (sb.2 b hb).trans e) f0 f1 f3 f4 f5, rfl, q⟩
/-! ### over trees -/
/-- a set comprehension that is handed on at once: put: how its elements are told; done: what is asked of them -/
def dScG (put : D → W → β → Prop) (done : List β → W → Prop) (ti : DTI) (gd : DTG) (tt : DTT) (te : DTE) (vs : List Nat) : En → W → Prop := fun env w => ti env w fun items w1 => items.length + 1 < scanBound ∧ ∃ Pv : Nat → List β → W → Prop, Pv 0 [] w1 ∧
  (∀ i x acc w2, items[i]? = some x → acc.length ≤ i → Pv i acc w2 → gd x (wipeD env vs) w2.mute fun env2 w3 => tt env2 w3 fun b w4 => if b = true then te env2 w4 fun y w5 => ∃ b, put y w5 b ∧ Pv (i + 1) (acc ++ [b]) (w5.as w1) else Pv (i + 1) acc (w4.as w1)) ∧
  ∀ acc w2, Pv items.length acc w2 → acc.length ≤ items.length → done acc w2
theorem Lk.fr {c c1 : Ck} {g : Gh} {p : Addr} {o : HO} (lk : Lk X c c1 g) : Lk X (c.fr p o) (c1.fr p o) g := by
  rcases lk with rfl | ⟨d, od, u, h1, h2, rfl, h4⟩
  · exact .inl rfl
  · exact .inr ⟨d, od, u, h1, h2, rfl, h4⟩
theorem Lk.noF {c c1 : Ck} {g : Gh} {p : Addr} (lk : Lk X c c1 g) (h : c1.F p = none) : c.F p = none := by
  rcases lk with rfl | ⟨d, od, u, h1, h2, rfl, h4⟩
  · exact h
  · exact h
theorem Rel.allocX {K : PySem.W.Frag} {c : Ck} {g : Gh} {w : W} {H : Hp} {p : Addr} {o : HO} (R : Rel K c g w H) (h : H p = none) : Rel K (c.fr p o) g w (upd H p o) := R.allocF h
theorem scG_lift {Wv : WX} (sk : SKit X β) {put : D → W → β → Prop} (hput : ∀ {c : Ck} {g : Gh} {w : W} {G : Hp} {S : Addr} {bs : List β} {v : V} {y : D} {b : β}, Rel X.K c g w G → Rep X.K g v y → bs.length + 1 < scanBound → put y w b → sk.ok G S bs v b)
    {done : List β → W → Prop} {ti : DTI} {gd : DTG} {tt : DTT} {te : DTE} {sl vs : List Nat} (hsl : ∀ i ∈ sl, i ∈ vs) {σ : St} {H : Hp} {Z : VK}
    (h : ∃ c g env w, Bx X.K Wv c g env w σ H ∧ dScG put done ti gd tt te vs env w ∧ ∀ S H1 acc g1 w1, g.le g1 → Rel X.K (c.fr S (sk.ho S acc)) g1 w1 H1 → c.F S = none → done acc w1 → acc.length + 1 < scanBound → Z (.ref S) H1) :
    tScG sk (liftI X Wv ti) (liftG X.K W0 sl gd) (liftT X.K W0 tt) (liftE X.K W0 te) vs σ H (unlV X Z) := by
  obtain ⟨c, g, env, w, B, q, k⟩ := h
  refine ⟨c, g, env, w, _, B, q, fun items w1 H1 g1 J c1 l1 lk R1 it q1 => fun S hS => ?_⟩
  obtain ⟨hz, Pv, h0, hstep, hd⟩ := q1
  have hF : c1.F S = none := R1.noF hS
  refine ⟨fun i m H => m = items.length - i ∧ i ≤ items.length ∧ ∃ g2 acc w2, g1.le g2 ∧ acc.length ≤ i ∧ Rel X.K (c1.fr S (sk.ho S acc)) g2 w2 H ∧ Pv i acc w2,
    ⟨items.length, by simp, Nat.zero_le _, g1, [], w1, .rfl, Nat.le_refl _, R1.allocF hS, h0⟩, ?_⟩
  rintro i m H2 ⟨rfl, hi, g2, acc, w2, l2, ha, R2, p⟩
  by_cases hlt : i < items.length
  · refine .inr ⟨it.go (c1.fr S (sk.ho S acc)) i w2 H2 g2 rfl l2 R2 hlt, fun H3 => ∃ g3 acc w3, g1.le g3 ∧ acc.length ≤ i + 1 ∧ Rel X.K (c1.fr S (sk.ho S acc)) g3 w3 H3 ∧ Pv (i + 1) acc w3, fun H3 ⟨g3, acc3, w3, z⟩ =>
      ⟨items.length - (i + 1), by omega, rfl, hlt, g3, acc3, w3, z⟩, fun x H' y => ?_⟩
    have hx : items[i]? = some items[i] := by simp [hlt]
    obtain ⟨g3, l3, R3, r3, _⟩ := it.yld (c1.fr S (sk.ho S acc)) i w2 H2 g2 x H' _ rfl l2 R2 hx y
    have e1 : w1.e = c1.e := R1.ex
    have Bm : Bx X.K W0 (c1.fr S (sk.ho S acc)).mute g3 (wipeD env vs) w2.mute (wipe σ vs) H' := ⟨R3.mute, (B.E.le ((l1.trans l2).trans l3)).wipe vs, fun _ _ _ _ _ _ _ _ px => by
      obtain ⟨_, _, _, _, _, _, _, z, _⟩ := px
      exact z⟩
    refine ⟨_, g3, _, _, _, _, Bm, r3, hstep i _ acc w2 hx ha p, fun env4 w4 σ4 H4 g4 l4 B4 s4 q4 => ⟨?_, ?_⟩⟩
    · have e := s4 vs hsl
      rw [e]
      have ww : ∀ us : List Nat, (∀ i ∈ us, i ∈ vs) → wipe (wipe σ vs) us = wipe σ vs := by
        intro us
        induction us with
        | nil => intro _; rfl
        | cons u us ih =>
          intro hu
          show (wipe (wipe σ vs) us).set u Option.none = wipe σ vs
          rw [ih fun i hi => hu i (List.mem_cons_of_mem _ hi)]
          have key : ∀ ws : List Nat, u ∈ ws → (wipe σ ws).set u none = wipe σ ws := by
            intro ws
            induction ws with
            | nil => intro h; cases h
            | cons v ws ih2 =>
              intro h
              unfold wipe
              by_cases e : u = v
              · subst e; rw [List.set_set]
              · rw [List.set_comm _ _ (Ne.symm e), ih2 ((List.mem_cons.mp h).resolve_left e)]
          exact key vs (hu u List.mem_cons_self)
      exact ww vs fun _ h => h
    · refine bindT B4 q4 fun b H5 g5 w5 l5 B5 q5 => ?_
      have c3 : ∀ {g' : Gh} {w' : W} {H' : Hp}, Rel X.K (c1.fr S (sk.ho S acc)).mute g' w' H' → Rel X.K (c1.fr S (sk.ho S acc)) g' (w'.as w1) H' := fun R => R.unmute e1
      cases b with
      | true =>
        refine iteT (bindE B5 q5 fun yv H6 g6 w6 y l6 B6 r6 q6 => ?_)
        obtain ⟨b, hb, q7⟩ := q6
        have R6 := c3 B6.R
        refine ⟨acc, b, (R6.frm S _ upd_same).1, hput B6.R r6 (by omega) hb, g6, acc ++ [b], w6.as w1, (((l2.trans l3).trans l4).trans l5).trans l6, by simp; omega, R6.writeF, q7⟩
      | false => exact iteF ⟨g5, acc, w5.as w1, ((l2.trans l3).trans l4).trans l5, by omega, c3 B5.R, q5⟩
  · have e : i = items.length := by omega
    subst e
    refine .inl ⟨it.stop (c1.fr S (sk.ho S acc)) w2 H2 g2 rfl l2 R2, ?_⟩
    have hd2 := hd acc w2 p ha
    have lz : acc.length + 1 < scanBound := by omega
    rcases (Lk.fr (p := S) (o := sk.ho S acc) lk).rel l2 R2 with R3 | ⟨d, od, u, e1, e2, R3⟩
    · exact .inl (k S H2 acc g2 w2 (l1.trans l2) R3 (lk.noF hF) hd2 lz)
    · exact .inr ⟨d, od, u, e1, e2, k S _ acc g2 w2 (l1.trans l2) R3 (lk.noF hF) hd2 lz⟩
end
/-! ### sets of texts -/
def SetY (P : Program) (wd : World) (a : Addr) (bs : List Str) : HO := .ext fun h => ∃ m, m ≤ bs.length ∧ SetS P wd h a (memT bs bs.length) m
theorem memT_snoc (bs : List Str) (b : Str) : memT (bs ++ [b]) (bs ++ [b]).length = fun y => memT bs bs.length y || decide (y = b) := by
  funext y
  rw [List.length_append, List.length_singleton, memT_succ (xs := bs ++ [b]) (i := bs.length) (x := b) (by simp)]
  congr 1
  unfold memT
  rw [List.take_append_of_le_length (Nat.le_refl _)]
section
variable {P : Program} {wd : World} {A : Around} {E : Value → Shared → Prop} {s : Shared} {a : Addr}
theorem setS_put {S : Str → Bool} {n : Nat} {x : Str} {u : Tok} {Q : Value → Shared → Prop} (R : SetS P wd s.heap a S n) (room : n + 1 < scanBound)
    (hQ : ∀ h' m, Heap.SameBut a s.heap h' → m ≤ n + 1 → SetS P wd h' a (fun y => S y || decide (y = x)) m → Q .none { s with heap := h', toks := s.toks + 1 }) :
    wpAny (model P wd) A (call (.builtin "set.add") [.ref a, .str x u]) Q E s := by
  obtain ⟨ob, ee, p0, tb, ho, hx, hd, rest⟩ := id R
  have hT : s.TypeIs (.ref a) "set" := ⟨ob, ho, hx.1⟩
  refine wpAny_call_entry F.slot_set_add hT F.entry_set_add ?_ (F.args_set_add_2 _ _)
  unfold Builtin.«set.add» Builtin.Frozenset.oneOther
  simp only [List.isEmpty_nil, bind_assoc]
  unfold Builtin.Frozenset.addrOf setAdd
  refine wpAny_bind (wpAny_pure ?_)
  try dsimp only
  refine wpAny_bind (wpAny_pure ?_)
  try dsimp only
  refine wpAny_bind (wpAny_holding (wpAny_bind ((strKind P wd).pyHash (k := x) (strKind_is P wd x u) ?_)))
  refine setS_add (s := { s with toks := s.toks + 1 }) R room fun h' m sb hm new => ?_
  show wpAny _ _ (ret Value.none) _ _ _
  exact wpAny_pure ⟨_, rfl, hQ h' m sb hm new⟩
end
section
variable {X : Cx}
theorem setY_ok {G : Hp} {h : Heap} {a : Addr} {bs : List Str} (R : ∃ m, m ≤ bs.length ∧ SetS X.prog X.w h a (memT bs bs.length) m) : ObjOk X.prog X.w G h a (SetY X.prog X.w a bs) := by
  obtain ⟨m, hm, R⟩ := R
  obtain ⟨ob, _, _, _, eo, _⟩ := id R
  exact ⟨⟨m, hm, R⟩, ⟨ob, eo⟩, fun h1 h2 ⟨m, hm, p⟩ k => ⟨m, hm, p.keep k⟩⟩
def kitS (X : Cx) : SKit X Str where
  ho := SetY X.prog X.w
  ok := fun _ _ bs v b => v = .str b ∧ bs.length + 1 < scanBound
  mu := fun _ _ => trivial
  fresh := fun {G hp} => setY_ok ⟨0, Nat.le_refl _, Fresh.set (w := X.w) rfl (Heap.get?_push_size _ rfl)⟩
  add := fun {Y} e1 e2 e3 e4 {pp ρ G st Er S bs v u b Z} I hS r hok hZ => by
    obtain ⟨rfl, room⟩ := hok
    obtain ⟨t, rfl⟩ := r
    have hS' := (I.hok S _ hS).1
    rw [e1, e2, e4]
    obtain ⟨m, hm, R⟩ : ∃ m, m ≤ bs.length ∧ SetS X.prog X.w st.heap S (memT bs bs.length) m := hS'
    refine setS_put R (by omega) fun h' m2 sb hm2 new => ?_
    have new' : ∃ m, m ≤ (bs ++ [b]).length ∧ SetS X.prog X.w h' S (memT (bs ++ [b]) (bs ++ [b]).length) m := ⟨m2, by rw [List.length_append]; exact Nat.le_trans hm2 (by simpa using hm), by rw [memT_snoc]; exact new⟩
    have he : ∃ o, h'.get? S = some o := by
      obtain ⟨ob, _, _, _, eo, _⟩ := new
      exact ⟨ob, eo⟩
    refine hZ _ (I.write (e := S) (t' := st.toks + 1) (by rw [hS]; trivial) (.inl rfl) (fun c o hc hu => (sb.2 c hc).trans hu) he ?_)
    rw [e1, e2]
    exact setY_ok new'
theorem setS_size {P : Program} {wd : World} {h : Heap} {a : Addr} {bs : List Str} {m : Nat} (R : SetS P wd h a (memT bs bs.length) m) : m = (nubT bs).length := by
  obtain ⟨ob, ee, p0, tb, ho, hx, hd, g, nd, hm, hb, hf, hn, hr, hl⟩ := R
  have p : (ee.toList.map kS).Perm (nubT bs) := (List.perm_ext_iff_of_nodup nd (nubT_nodup bs)).mpr fun y => by rw [← hm y, memT_all, nubT_mem]
  rw [← hn, ← p.length_eq, List.length_map, Array.length_toList]
def rLenY (X : Cx) : List V → Hp → VK → Prop := fun vs H Q => ∃ p bs, vs = [.ref p] ∧ H p = some (SetY X.prog X.w p bs) ∧ Q (.int ((nubT bs).length : Nat)) H
theorem cr_lenY : CallR X (.builtin "len") (rLenY X) := by
  intro pins s σ H vs us Q I r h
  obtain ⟨a, bs, rfl, ha, q⟩ := h
  obtain ⟨m, hm, R⟩ := (I.hok a _ ha).1
  have em := setS_size R
  obtain ⟨ob, ee, p0, tb, ho, hx, hd, g, nd, hmm, hb, hf, hn, hr, hl⟩ := R
  rw [Vals.ref1 r]
  have big : (ee.size : Int) < 2 ^ 63 := by unfold scanBound at hb; omega
  refine call_len_set ho hx hd hf big ?_
  refine ⟨.int ((nubT bs).length : Nat), H, ?_, ⟨s.toks + 1, by rw [hn, em]⟩, q⟩
  exact I.call' (ch := []) rfl (Un.kept fun _ _ e => e) (I.hok.kept fun _ _ e => e) I.bare (fun _ z => nomatch z)
def rSortY (X : Cx) : List V → Hp → VK → Prop := fun vs H Q => ∃ p bs, vs = [.ref p] ∧ H p = some (SetY X.prog X.w p bs) ∧ bs.length ≤ sizeLine ∧ ∀ q, H q = none → Q (.ref q) (upd H q (.lst ((sortT (nubT bs)).map V.str)))
theorem cr_sortY (hc : X.calm = true) (hu : X.A.units + 8 < cLine) : CallR X (.builtin "sorted") (rSortY X) := by
  intro pins s σ H vs us Q I r h
  obtain ⟨a, xs, rfl, ha, hz, q⟩ := h
  obtain ⟨m, hm, R⟩ := (I.hok a _ ha).1
  rw [Vals.ref1 r]
  exact sorted_setS R (fun y => memT_all) (I.ok.hd hc) hz hu fun s' p out c k g o hp hg hi => srt_done I k g o hp hg hi (by rw [sortT_len]; exact Nat.le_trans (nubT_len xs) hz) (q p (let ⟨_, k1, l1⟩ := hp; (I.hok.kept k1).fresh l1))
end
/-! ### len({e for ..}), sorted({e for ..}), e a text -/
def putS : D → W → Str → Prop := fun y _ b => y = .str b
def dLenSc (ti : DTI) (gd : DTG) (tt : DTT) (te : DTE) (vs : List Nat) : DTE := fun env w Q => dScG putS (fun acc w1 => Q (.int ((nubT acc).length : Nat)) w1) ti gd tt te vs env w
def dSortSc (ti : DTI) (gd : DTG) (tt : DTT) (te : DTE) (vs : List Nat) : DTE := fun env w Q => dScG putS (fun acc w1 => Q (.lst ((sortT (nubT acc)).map .str)) w1) ti gd tt te vs env w
section
variable {X : Cx} {Wv : WX} {elt tg iter : Expr} {ifs : List Expr} {scope : Scope} {own : List (Str × Nat)} {sl : List Nat} {p pos pos2 : Pos} {ti : DTI} {gd : DTG} {tt : DTT} {te : DTE}
theorem putS_ok {c : Ck} {g : Gh} {w : W} {G : Hp} {S : Addr} {bs : List Str} {v : V} {y : D} {b : Str} (_ : Rel X.K c g w G) (r : Rep X.K g v y) (room : bs.length + 1 < scanBound) (h : putS y w b) : (kitS X).ok G S bs v b := by
  unfold putS at h
  subst h
  cases r
  exact ⟨rfl, room⟩
theorem de_lenSc (hm : X.mg "len" = none) (hc : X.calm = true) (hN : X.N.Nodup) (hi : DI X Wv tg iter ti) (ok : blkC X.N X.env.scope scope own = true)
    (hg : ∀ (s : Shared) (H : Hp) (C : Addr) (cl : List (Str × Addr)) (fp : List Addr), DG (X.blk s H scope (compEnvC scope cl C X.env) fp) W0 tg sl gd)
    (ht : ∀ (s : Shared) (H : Hp) (C : Addr) (cl : List (Str × Addr)) (fp : List Addr), DTs (X.blk s H scope (compEnvC scope cl C X.env) fp) W0 ifs tt)
    (he : ∀ (s : Shared) (H : Hp) (C : Addr) (cl : List (Str × Addr)) (fp : List Addr), DE (X.blk s H scope (compEnvC scope cl C X.env) fp) W0 elt te)
    (hsl : (sl.all fun i => (own.map (·.2)).contains i) = true := by rfl) (hs : ∀ x, foldedSetIterable iter X.env x = pure x := by intro _; rfl) (hgl : Gl X "len" := by rfl) (v1 : bootBuiltins "len" = some (.builtin "len") := by decide +kernel)
    (s1 : starEach [.SetComp elt [⟨tg, iter, ifs, 0⟩] scope pos2] X.env = (false, eval (.SetComp elt [⟨tg, iter, ifs, 0⟩] scope pos2) X.env) :: starEach [] X.env := by rfl) (b1 : (backTo pos (starEach [] X.env)).any (·.1) = false := by rfl) :
    DE X Wv (.Call (.Name "len" p) [.SetComp elt [⟨tg, iter, ifs, 0⟩] scope pos2] [] pos) (dLenSc ti gd tt te (own.map (·.2))) :=
  ⟨PE_imp (pe_callB cr_lenY hgl hm v1 (pa_cons (pe_unl (pe_scG (kitS X) hc hN hi.pi (blkOk_by ok) (fun s H C cl fp => (hg s H C cl fp).pg) (fun s H C cl fp => (ht s H C cl fp).pts) (fun s H C cl fp => (he s H C cl fp).pe) hs)) pa_nil s1) (by decide) (by decide) s1 b1)
    fun σ H Qv ⟨c, g, env, w, Q, B, q, k⟩ => scG_lift (kitS X) (put := putS) (fun R r room h => putS_ok R r room h) (fun i hi => by simpa using List.all_eq_true.mp hsl i hi) ⟨c, g, env, w, B, q, fun S H1 acc g1 w1 l1 R1 hF hd hz =>
      ⟨S, acc, rfl, (R1.frm S _ upd_same).1, k _ _ ⟨g1, w1, _, l1, R1.unfr hF, .int _, hd⟩⟩⟩⟩
theorem de_sortSc (h1 : X.mg "sorted" = none) (hu : X.A.units + 64 < cLine) (hc : X.calm = true) (hN : X.N.Nodup) (hi : DI X Wv tg iter ti) (ok : blkC X.N X.env.scope scope own = true)
    (hg : ∀ (s : Shared) (H : Hp) (C : Addr) (cl : List (Str × Addr)) (fp : List Addr), DG (X.blk s H scope (compEnvC scope cl C X.env) fp) W0 tg sl gd)
    (ht : ∀ (s : Shared) (H : Hp) (C : Addr) (cl : List (Str × Addr)) (fp : List Addr), DTs (X.blk s H scope (compEnvC scope cl C X.env) fp) W0 ifs tt)
    (he : ∀ (s : Shared) (H : Hp) (C : Addr) (cl : List (Str × Addr)) (fp : List Addr), DE (X.blk s H scope (compEnvC scope cl C X.env) fp) W0 elt te)
    (hsl : (sl.all fun i => (own.map (·.2)).contains i) = true := by rfl) (hs : ∀ x, foldedSetIterable iter X.env x = pure x := by intro _; rfl) (hgl : Gl X "sorted" := by rfl) (v1 : bootBuiltins "sorted" = some (.builtin "sorted") := by decide +kernel)
    (s1 : starEach [.SetComp elt [⟨tg, iter, ifs, 0⟩] scope pos2] X.env = (false, eval (.SetComp elt [⟨tg, iter, ifs, 0⟩] scope pos2) X.env) :: starEach [] X.env := by rfl) (b1 : (backTo pos (starEach [] X.env)).any (·.1) = false := by rfl) :
    DE X Wv (.Call (.Name "sorted" p) [.SetComp elt [⟨tg, iter, ifs, 0⟩] scope pos2] [] pos) (dSortSc ti gd tt te (own.map (·.2))) :=
  ⟨PE_imp (pe_callB (cr_sortY hc (by omega)) hgl h1 v1 (pa_cons (pe_unl (pe_scG (kitS X) hc hN hi.pi (blkOk_by ok) (fun s H C cl fp => (hg s H C cl fp).pg) (fun s H C cl fp => (ht s H C cl fp).pts) (fun s H C cl fp => (he s H C cl fp).pe) hs)) pa_nil s1) (by decide) (by decide) s1 b1)
    fun σ H Qv ⟨c, g, env, w, Q, B, q, k⟩ => scG_lift (kitS X) (put := putS) (fun R r room h => putS_ok R r room h) (fun i hi => by simpa using List.all_eq_true.mp hsl i hi) ⟨c, g, env, w, B, q, fun S H1 acc g1 w1 l1 R1 hF hd hz =>
      ⟨S, acc, rfl, (R1.frm S _ upd_same).1, scan_size hz, fun q hq => by
        have hne : q ≠ S := fun z => by rw [z, (R1.frm S _ upd_same).1] at hq; cases hq
        exact newL (R1.unfr hF) (repStrs _) hd (fun v H' z => k v H' (z.up l1)) q hq⟩⟩⟩
end
end DL

/-! DLzo: sorted(..) of lists of data; sorted lists that will change. -/
namespace DL
open PySem PySem.Spec PyProof.Rows L2
/-- a list's items with their plain data -/
def dRows : List D → Option (List (D × PyData))
  | [] => some []
  | x :: r => (toPy x).bind fun d => (dRows r).map ((x, d) :: ·)
def leD2 (a b : D × PyData) : Bool := PySem.W.dataLe false (fun p : D × PyData => p.2) a b
/-- what sorted asks of its items -/
structure SrtOk (ps : List PyData) : Prop where
  al : PySem.W.AllAlike ps
  so : PySem.W.Sortable ps
  dp : ∀ p ∈ ps, p.depth ≤ 20
  nd : ∀ p ∈ ps, p.hasDict = false
section
variable {X : Cx}
def rSortD (X : Cx) : List V → Hp → VK → Prop := fun vs H Q => ∃ (a : Addr) (zs : List (V × D × PyData)), vs = [.ref a] ∧ SqL X.K H a (zs.map (·.1)) ∧ SrtOk (zs.map (·.2.2)) ∧ (∀ z ∈ zs, Dp X.K H z.1 z.2.2) ∧
  ∀ q, H q = none → Q (.ref q) (upd H q (.lst ((zs.mergeSort fun a b => leD2 a.2 b.2).map (·.1))))
open PySem.W in
theorem each_relv : ∀ {zs : List (V × D × PyData)} {us : List Value}, Vals (zs.map (·.1)) us → EachIs (fun u z => RelV z.1 u) us zs
  | [], us, h => by cases h; exact .nil
  | z :: r, us, h => by
    cases h with
    | cons a b => exact .cons a (each_relv b)
open PySem.W in
theorem vals_each : ∀ {zs : List (V × D × PyData)} {us : List Value}, EachIs (fun u z => RelV z.1 u) us zs → Vals (zs.map (·.1)) us
  | _, _, .nil => .nil
  | _, _, .cons a b => .cons a (vals_each b)
open PySem.W in
theorem each_add {α β : Type} {R R' : α → β → Prop} : ∀ {as : List α} {bs : List β}, EachIs R as bs → (∀ a b, b ∈ bs → R a b → R' a b) → EachIs R' as bs
  | _, _, .nil, _ => .nil
  | _, _, .cons a r, h => .cons (h _ _ List.mem_cons_self a) (each_add r fun x y hy => h x y (List.mem_cons_of_mem _ hy))
open PySem.W in
theorem cr_sortD (hu : X.A.units + 40 < cLine) : CallR X (.builtin "sorted") (rSortD X) := by
  intro pins s σ H vs us Q I r h
  obtain ⟨a, zs, rfl, hs, ok, hd, q⟩ := h
  rw [Vals.ref1 r]
  obtain ⟨its, rv, hl, hz⟩ := I.list hs
  rw [List.length_map] at hz
  have e := each_relv rv
  refine sorted_data (enc := fun z : V × D × PyData => z.2.2) (R := fun u z => RelV z.1 u) hl.isList e (each_add e fun u z hm hr => Dp.reads I _ _ _ (hd z hm) hr) ok.al ok.so hz
    (fun b hb => by have := ok.dp _ (List.mem_map.mpr ⟨b, hb, rfl⟩); show X.A.units + 2 + _ < cLine; omega) fun out lo eo => ?_
  obtain ⟨ep, he⟩ := sortedAll_at s.heap its out.toArray
  have z : Vals ((zs.mergeSort fun a b => leD2 a.2 b.2).map (·.1)) out := vals_each eo
  have hlen : ((zs.mergeSort fun a b => leD2 a.2 b.2).map (·.1)).length ≤ sizeLine := by rw [List.length_map, List.length_mergeSort]; exact hz
  exact ⟨.ref _, upd H (s.heap.objs.size + 1) (.lst ((zs.mergeSort fun a b => leD2 a.2 b.2).map (·.1))), I.laid (t' := s.toks) (fun _ _ => sortedAll_old) (Nat.le_succ _) ⟨hlen, out, ep, z, he⟩, rfl, q _ (I.hok.fresh (Nat.le_succ _))⟩
end
/-- sorted(e), e a list of data -/
def listIn (x : D) (w : W) (ds : List D) : Prop := match x with
  | .lst xs => xs = ds
  | .ref p => w.m p = some (.lst ds)
  | _ => False
def sortDR (fin : List D → W → DK → Prop) : DRC := fun xs w Q => match xs with
  | [x] => ∃ ds rs, listIn x w ds ∧ dRows ds = some rs ∧ SrtOk (rs.map (·.2)) ∧ fin ((rs.mergeSort leD2).map (·.1)) w Q
  | _ => False
theorem dRows_rep {K : PySem.W.Frag} {c : Ck} {g : Gh} {w : W} {H : Hp} (R : Rel K c g w H) : ∀ {vs : List V} {ds : List D} {rs : List (D × PyData)}, RepL K g vs ds → dRows ds = some rs → (∀ p ∈ rs.map (·.2), p.hasDict = false) →
    ∃ zs : List (V × D × PyData), zs.map (·.1) = vs ∧ zs.map (·.2) = rs ∧ (∀ z ∈ zs, Dp K H z.1 z.2.2) ∧ ∀ z ∈ zs, Rep K g z.1 z.2.1
  | _, _, _, .nil, e, _ => by
    simp only [dRows] at e; cases e
    exact ⟨[], rfl, rfl, fun z hz => (nomatch hz), fun z hz => (nomatch hz)⟩
  | _, _, _, .cons (v := v) (d := d) a r, e, h => by
    simp only [dRows, Option.bind_eq_some_iff, Option.map_eq_some_iff] at e
    obtain ⟨p, e1, rs, e2, rfl⟩ := e
    obtain ⟨zs, h1, h2, h3, h4⟩ := dRows_rep R r e2 fun p hp => h p (List.mem_cons_of_mem _ hp)
    refine ⟨(v, d, p) :: zs, by simp [h1], by simp [h2], fun z hz => ?_, fun z hz => ?_⟩
    · rcases List.mem_cons.mp hz with rfl | hz
      · exact a.dp R e1 (h p (by simp))
      · exact h3 z hz
    · rcases List.mem_cons.mp hz with rfl | hz
      · exact a
      · exact h4 z hz
theorem repL_zs {K : PySem.W.Frag} {g : Gh} : ∀ {zs : List (V × D × PyData)}, (∀ z ∈ zs, Rep K g z.1 z.2.1) → RepL K g (zs.map (·.1)) (zs.map (·.2.1))
  | [], _ => .nil
  | z :: r, h => .cons (h z List.mem_cons_self) (repL_zs fun y hy => h y (List.mem_cons_of_mem _ hy))
section
variable {X : Cx}
theorem cd_sortD0 {fin : List D → W → DK → Prop} (hu : X.A.units + 64 < cLine) (hfin : ∀ {c : Ck} {g : Gh} {w : W} {H : Hp} {xs : List V} {ds : List D} {Q : DK} {Qv : VK}, Rel X.K c g w H → RepL X.K g xs ds → fin ds w Q → (∀ v H', PQ X.K c g Q v H' → Qv v H') → ∀ p, H p = none → Qv (.ref p) (upd H p (.lst xs))) :
    CallD X (.builtin "sorted") (sortDR fin) := by
  refine ⟨_, cr_sortD (by omega), fun c g w H vs ds Q Qv R r q k => ?_⟩
  unfold sortDR at q
  split at q
  · obtain ⟨v, rfl, a⟩ := r.one
    obtain ⟨ds, rs, hin, e, ok, q⟩ := q
    obtain ⟨b, vs, rfl, hs, rl⟩ : ∃ b vs, v = V.ref b ∧ SqL X.K H b vs ∧ RepL X.K g vs ds := by
      unfold listIn at hin
      split at hin
      · cases a with
        | lst s r => subst hin; exact ⟨_, _, rfl, R.sqL s, r⟩
      · cases a
        obtain ⟨ys, e1, r⟩ := R.mlst hin
        exact ⟨_, _, rfl, SqL.of e1, r⟩
      · exact hin.elim
    obtain ⟨zs, h1, h2, h3, h4⟩ := dRows_rep R rl e ok.nd
    have e2 : rs.mergeSort leD2 = (zs.mergeSort fun a b => leD2 a.2 b.2).map (·.2) := by
      rw [← h2]
      exact (List.map_mergeSort (l := zs) (f := fun z : V × D × PyData => z.2) (r := fun a b => leD2 a.2 b.2) (s := leD2) fun a _ b _ => rfl).symm
    refine ⟨b, zs, rfl, by rw [h1]; exact hs, ?_, h3, fun p hp => ?_⟩
    · have : zs.map (·.2.2) = rs.map (·.2) := by rw [← h2, List.map_map]; rfl
      rw [this]
      exact ok
    · refine hfin R (repL_zs (zs := zs.mergeSort fun a b => leD2 a.2 b.2) fun z hz => h4 z ((List.mergeSort_perm _ _).mem_iff.mp hz)) ?_ k p hp
      rw [e2, List.map_map] at q
      exact q
  · exact q.elim
theorem newLM {K : PySem.W.Frag} {c : Ck} {g : Gh} {w : W} {H : Hp} {xs : List V} {ds : List D} {Q : DK} {Qv : VK} (R : Rel K c g w H) (r : RepL K g xs ds) (q : finM ds w Q) (k : ∀ v H', PQ K c g Q v H' → Qv v H') (p : Addr) (hp : H p = none) : Qv (.ref p) (upd H p (.lst xs)) :=
  k _ _ ⟨g, _, .ref p, .rfl, R.allocM hp (.lst r), .ref p, q p (R.noM hp)⟩
/-- sorted(e) of data: a list that does not change -/
theorem cd_sortD (hu : X.A.units + 64 < cLine) : CallD X (.builtin "sorted") (sortDR finL) := cd_sortD0 hu fun R r q k p hp => newL R r q k p hp
/-- .. a list that will change -/
theorem cd_sortDM (hu : X.A.units + 64 < cLine) : CallD X (.builtin "sorted") (sortDR finM) := cd_sortD0 hu fun R r q k p hp => newLM R r q k p hp
end
/-! ### repr, == of what may change, as it stands -/
def reprMR : DRC := fun xs w Q => match xs with
  | [.ref p] => ∃ m d, w.m p = some m ∧ toPy (m.d p) = some d ∧ ShowOk d ∧ Q (.str d.shown) w
  | _ => False
theorem cd_reprM {X : Cx} (hg : X.A.guards = some []) (hu : X.A.units + 64 < cLine) : CallD X (.builtin "repr") reprMR := by
  refine ⟨_, call_reprR hg hu, fun c g w H vs ds Q Qv R r q k => ?_⟩
  unfold reprMR at q
  split at q
  · obtain ⟨v, rfl, a⟩ := r.one
    cases a
    obtain ⟨m, d, em, e, ok, q⟩ := q
    obtain ⟨g2, l2, R2, r2⟩ := R.frz em
    exact ⟨_, c, g2, _, _, d, rfl, R2, r2, e, ok, k _ _ ⟨g, w, _, .rfl, R, .str _, q⟩⟩
  · exact q.elim
end DL

/-! DLzp: is of bools; sum, max, min of ints; x[::-1]; x op= e. -/
namespace DL
open PySem PySem.Spec PyProof.Rows L2
section
variable {X : Cx} {Wv : WX}
def isBR : DR2 := fun x y w Q => match x, y with
  | .bl a, .bl b => Q (.bl (decide (a = b))) w
  | _, _ => False
def isnotBR : DR2 := fun x y w Q => match x, y with
  | .bl a, .bl b => Q (.bl (!decide (a = b))) w
  | _, _ => False
theorem od_isB : OpD X (compareOp .Is) isBR := ⟨_, op_is_bl, fun c g w H x y v u Q Qv R r1 r2 q k => by
  unfold isBR at q
  split at q
  · cases r1; cases r2
    exact ⟨_, _, rfl, rfl, k _ _ ⟨g, w, _, .rfl, R, .bl _, q⟩⟩
  · exact q.elim⟩
theorem od_isnotB : OpD X (compareOp .IsNot) isnotBR := ⟨_, op_isnot_bl, fun c g w H x y v u Q Qv R r1 r2 q k => by
  unfold isnotBR at q
  split at q
  · cases r1; cases r2
    exact ⟨_, _, rfl, rfl, k _ _ ⟨g, w, _, .rfl, R, .bl _, q⟩⟩
  · exact q.elim⟩
/-- sum, max, min of a list of ints; max, min of two -/
def sumR : DRC := fun xs w Q => match xs with
  | [.lst ds] => ∃ ns, intsOf ds = some ns ∧ Q (.int ns.sum) w
  | _ => False
theorem cd_sum (hc : X.calm = true) : CallD X (.builtin "sum") sumR := by
  refine ⟨_, cr_sum hc, fun c g w H vs ds Q Qv R r q k => ?_⟩
  unfold sumR at q
  split at q
  · obtain ⟨v, rfl, a⟩ := r.one
    obtain ⟨ns, e, q⟩ := q
    cases a with
    | lst s r =>
      have z := r.ints e
      subst z
      exact ⟨_, ns, rfl, R.sqL s, k _ _ ⟨g, w, _, .rfl, R, .int _, q⟩⟩
  · exact q.elim
def maxI (i : Int) (ns : List Int) : Int := ns.foldl max i
def minI (i : Int) (ns : List Int) : Int := ns.foldl min i
theorem maxI_spec : ∀ (ns : List Int) (i : Int), maxI i ns ∈ i :: ns ∧ ∀ y ∈ i :: ns, y ≤ maxI i ns
  | [], i => ⟨List.mem_cons_self, fun y hy => by rw [List.mem_singleton.mp hy]; exact Int.le_refl _⟩
  | n :: r, i => by
    obtain ⟨h1, h2⟩ := maxI_spec r (max i n)
    have e : maxI i (n :: r) = maxI (max i n) r := rfl
    rw [e]
    have hm := h2 (max i n) List.mem_cons_self
    refine ⟨?_, fun y hy => ?_⟩
    · rcases List.mem_cons.mp h1 with h | h
      · rw [h]
        by_cases hin : i ≤ n
        · rw [Int.max_eq_right hin]; exact List.mem_cons_of_mem _ List.mem_cons_self
        · rw [Int.max_eq_left (by omega)]; exact List.mem_cons_self
      · exact List.mem_cons_of_mem _ (List.mem_cons_of_mem _ h)
    · rcases List.mem_cons.mp hy with rfl | hy
      · omega
      · rcases List.mem_cons.mp hy with rfl | hy
        · omega
        · exact h2 y (List.mem_cons_of_mem _ hy)
theorem minI_spec : ∀ (ns : List Int) (i : Int), minI i ns ∈ i :: ns ∧ ∀ y ∈ i :: ns, minI i ns ≤ y
  | [], i => ⟨List.mem_cons_self, fun y hy => by rw [List.mem_singleton.mp hy]; exact Int.le_refl _⟩
  | n :: r, i => by
    obtain ⟨h1, h2⟩ := minI_spec r (min i n)
    have e : minI i (n :: r) = minI (min i n) r := rfl
    rw [e]
    have hm := h2 (min i n) List.mem_cons_self
    refine ⟨?_, fun y hy => ?_⟩
    · rcases List.mem_cons.mp h1 with h | h
      · rw [h]
        by_cases hin : i ≤ n
        · rw [Int.min_eq_left hin]; exact List.mem_cons_self
        · rw [Int.min_eq_right (by omega)]; exact List.mem_cons_of_mem _ List.mem_cons_self
      · exact List.mem_cons_of_mem _ (List.mem_cons_of_mem _ h)
    · rcases List.mem_cons.mp hy with rfl | hy
      · omega
      · rcases List.mem_cons.mp hy with rfl | hy
        · omega
        · exact h2 y (List.mem_cons_of_mem _ hy)
def maxR : DRC := fun xs w Q => match xs with
  | [.lst ds] => ∃ i ns, intsOf ds = some (i :: ns) ∧ Q (.int (maxI i ns)) w
  | [.int i, .int j] => Q (.int (max i j)) w
  | _ => False
theorem cd_max (hc : X.calm = true) : CallD X (.builtin "max") maxR := by
  refine ⟨_, CallR_or (cr_max hc) (call_max2 hc), fun c g w H vs ds Q Qv R r q k => ?_⟩
  unfold maxR at q
  split at q
  · obtain ⟨v, rfl, a⟩ := r.one
    obtain ⟨i, ns, e, q⟩ := q
    cases a with
    | lst s r =>
      have z := r.ints e
      subst z
      refine .inl ⟨_, i :: ns, rfl, R.sqL s, Nat.succ_pos _, fun m hm hy => ?_⟩
      obtain ⟨h1, h2⟩ := maxI_spec ns i
      have e2 : m = maxI i ns := Int.le_antisymm (h2 m hm) (hy _ h1)
      rw [e2]
      exact k _ _ ⟨g, w, _, .rfl, R, .int _, q⟩
  · obtain ⟨v, u, rfl, a, b⟩ := r.two
    cases a; cases b
    rename_i i j
    refine .inr ⟨i, j, rfl, ?_⟩
    have e : (if j > i then j else i) = max i j := by
      by_cases h : j > i
      · rw [if_pos h, Int.max_eq_right (by omega)]
      · rw [if_neg h, Int.max_eq_left (by omega)]
    rw [e]
    exact k _ _ ⟨g, w, _, .rfl, R, .int _, q⟩
  · exact q.elim
def minIR : DRC := fun xs w Q => match xs with
  | [.lst ds] => ∃ i ns, intsOf ds = some (i :: ns) ∧ Q (.int (minI i ns)) w
  | [.int i, .int j] => Q (.int (min i j)) w
  | _ => False
theorem cd_minI (hc : X.calm = true) : CallD X (.builtin "min") minIR := by
  refine ⟨_, CallR_or (cr_min hc) (call_min2 hc), fun c g w H vs ds Q Qv R r q k => ?_⟩
  unfold minIR at q
  split at q
  · obtain ⟨v, rfl, a⟩ := r.one
    obtain ⟨i, ns, e, q⟩ := q
    cases a with
    | lst s r =>
      have z := r.ints e
      subst z
      refine .inl ⟨_, i :: ns, rfl, R.sqL s, Nat.succ_pos _, fun m hm hy => ?_⟩
      obtain ⟨h1, h2⟩ := minI_spec ns i
      have e2 : m = minI i ns := Int.le_antisymm (hy _ h1) (h2 m hm)
      rw [e2]
      exact k _ _ ⟨g, w, _, .rfl, R, .int _, q⟩
  · obtain ⟨v, u, rfl, a, b⟩ := r.two
    cases a; cases b
    rename_i i j
    refine .inr ⟨i, j, rfl, ?_⟩
    have e : (if j < i then j else i) = min i j := by
      by_cases h : j < i
      · rw [if_pos h, Int.min_eq_right (by omega)]
      · rw [if_neg h, Int.min_eq_left (by omega)]
    rw [e]
    exact k _ _ ⟨g, w, _, .rfl, R, .int _, q⟩
  · exact q.elim
/-- xs[::-1] of a list -/
def dRev (t : DTE) : DTE := fun env w Q => t env w fun x w1 => match x with
  | .lst xs => Q (.lst xs.reverse) w1
  | .ref p => ∃ xs, w1.m p = some (.lst xs) ∧ Q (.lst xs.reverse) w1
  | _ => False
theorem de_rev {e : Expr} {te : DTE} {k : Nat} {p1 p2 p3 pos : Pos} (he : DE X Wv e te) : DE X Wv (.Subscript e (.Slice none none (some (.UnaryOp .USub (.Constant (.int 1) k p1) p2)) p3) pos) (dRev te) :=
  ⟨PE_imp (pe_revL he.pe) fun σ H Qv ⟨c, g, env, w, Q, B, q, k⟩ => bindE B q fun v H1 g1 w1 x l1 B1 r1 q1 => by
    cases r1 with
    | lst s r => exact ⟨_, _, rfl, B1.R.sqL s, newL B1.R r.reverse q1 fun v H' z => k v H' (z.up l1)⟩
    | ref p =>
      obtain ⟨xs, em, q1⟩ := (show ∃ xs, w1.m p = some (.lst xs) ∧ Q (.lst xs.reverse) w1 from q1)
      obtain ⟨ys, e1, r⟩ := B1.R.mlst em
      exact ⟨_, _, rfl, SqL.of e1, newL B1.R r.reverse q1 fun v H' z => k v H' (z.up l1)⟩
    | _ => exact False.elim q1⟩
end
end DL

/-! DLzq: d[k] += e of ints; max(d.values()). -/
namespace DL
open PySem PySem.Spec PyProof.Rows L2
def dAug (td ti te : DTE) : DTS := fun D env w => td env w fun o w1 => ti env w1 fun i w2 => match o with
  | .ref p => ∃ kvs k n, w2.m p = some (.dic kvs) ∧ keyOf i = some k ∧ valD kvs k = some (.int n) ∧ te env w2 fun y w3 => ∃ m kvs', y = .int m ∧ w3.m p = some (.dic kvs') ∧ kvs'.length < sizeLine ∧ D.nx env (w3.put p (.dic (putD kvs' k (.int (n + m)))))
  | _ => False
theorem ds_aug {X : Cx} {Wv : WX} {o i e : Expr} {to ti te : DTE} {pos tpos : Pos} (hu : X.A.units + 1 < cLine) (ho : DE X Wv o to) (hi : DE X Wv i ti) (he : DE X Wv e te)
    (ha : ∀ ov iv new, augStore i ov iv new = (do holding [new, ov, iv] (setItem ov iv new); release [new, ov, iv] []; pure .next) := by intro _ _ _; rfl) :
    DS X Wv (.AugAssign (.Subscript o i tpos) .Add e pos) (dAug to ti te) :=
  ⟨PS_imp (ps_daug hu ho.pe hi.pe he.pe in_add ha) fun Dv σ H ⟨c, g, env, w, D, B, q, k⟩ => bindE B q fun o H1 g1 w1 x l1 B1 r1 q1 => bindE B1 q1 fun i H2 g2 w2 y l2 B2 r2 q2 => by
    have r1 := r1.le l2
    cases r1 with
    | ref p =>
      obtain ⟨kvs, ky, n, e, h, hv, q3⟩ := (show ∃ kvs k n, _ from q2)
      obtain ⟨rfl, rfl⟩ := r2.key h
      obtain ⟨vs, e1, rv⟩ := B2.R.mdic e
      obtain ⟨v', z1, hr⟩ : ∃ v', valV vs ky = some v' ∧ v' = V.int n := by
        rcases rv.val ky with ⟨_, z⟩ | ⟨v', d', z1, z2, r'⟩
        · rw [z] at hv; cases hv
        · rw [z2] at hv
          cases hv
          cases r'
          exact ⟨_, z1, rfl⟩
      refine ⟨p, v', rfl, by rw [← z1]; exact DGet.k e1, bindE B2 q3 fun u H3 g3 w3 yv l3 B3 r3 q4 => ?_⟩
      obtain ⟨m, kvs', rfl, e3, hl, q5⟩ := q4
      cases r3
      obtain ⟨vs', e4, rv'⟩ := B3.R.mdic e3
      refine ⟨n, m, hr, rfl, _, DPut.k e4 (by rw [rv'.length]; exact hl), k.nx env _ σ _ g3 ((l1.trans l2).trans l3) (B3.step .rfl (B3.R.write e3 (.dic (rv'.put (.int _))))) q5⟩
    | _ => exact False.elim q2⟩
/-! ### max(d.values()) -/
def vwOb (d : Addr) : Obj := { cls := .type "dict_values", data := .fields #[.ref d] }
def vwO (p d : Addr) : HO := .ext fun h => h.get? p = some (vwOb d)
theorem vwO_ok {P : Program} {w : World} {H : Hp} {h : Heap} {p d : Addr} (e : h.get? p = some (vwOb d)) : ObjOk P w H h p (vwO p d) := ⟨e, ⟨_, e⟩, fun h1 h2 q k => k _ q⟩
def tVw (te : TE) : TE := fun σ H Q => te σ H fun x H1 => ∃ d kvs, x = .ref d ∧ Rd H1 d (.dK kvs) ∧ ∀ p, H1 p = none → Q (.ref p) (upd H1 p (vwO p d))
section
variable {X : Cx} {Wv : WX} {e : Expr} {te : TE} {t : DTE} {p pos apos cpos : Pos}
theorem pe_vw (he : PE X e te) (hbase : attributeBase e "values" X.env (eval e X.env) = eval e X.env) (hline : (apos.endLine == cpos.line) = true) :
    PE X (.Call (.Attribute e "values" apos) [] [] cpos) (tVw te) := by
  refine ⟨fun pins s σ H Q I hq => ?_⟩
  refine wpAny_Call_method (T := "dict") (id := "dict.values") hbase rfl hline F.plainAttrs_dict F.slot_dict_values F.type_dict_values (thn (he.run pins s σ H _ I hq) fun u s1 ⟨x, H1, I1, rx, d, kvs, ex, hd, q⟩ => ?_)
  subst ex
  obtain rfl : u = Value.ref d := rx
  obtain ⟨z, lo, vs, rel, dd⟩ := dk_rd I1.hok hd
  refine ⟨dd.typeIs, dd.mapOf.noDict, ?_⟩
  show wpAny _ _ (callWith cpos (.builtin "dict.values") [.ref d] [] []) _ X.xe s1
  refine method_meetsIn F.slot_dict_values F.entry_dict_values rfl (PySem.evalArgs_none ⟨rfl, dd.typeIs, F.args_dict_values_1 _, _, meets_dict_values (mixKind X.prog X.w) d lo, ⟨vs, dd⟩, ?_⟩)
  exact ⟨.ref s1.heap.objs.size, _, I1.laid (t' := s1.toks) (fun b ob q => Heap.get?_push_of_some _ q) (Nat.le_refl _) (vwO_ok (Heap.get?_push_size _ rfl)), rfl, q _ (I1.hok.fresh (Nat.le_refl _))⟩
theorem vals_int : ∀ {ns : List Int} {us : List Value}, Vals (ns.map V.int) us → ∀ i v, us[i]? = some v → ∃ t, v = Value.int (ns.getD i 0) t
  | [], [], _, i, v, e => by simp at e
  | n :: ns, u :: us, .cons a r, 0, v, e => by
    cases e
    exact a
  | n :: ns, u :: us, .cons a r, i + 1, v, e => by
    have := vals_int r i v (by simpa using e)
    simpa using this
def rMaxV (X : Cx) : List V → Hp → VK → Prop := fun xs H Q => ∃ (p a : Addr) (kvs : List (Key × V)) (ns : List Int), xs = [.ref p] ∧ H p = some (vwO p a) ∧ Rd H a (.dK kvs) ∧ kvs.map Prod.snd = ns.map V.int ∧ 0 < ns.length ∧ ∀ m, m ∈ ns → (∀ y, y ∈ ns → y ≤ m) → Q (.int m) H
theorem cr_maxV (hc : X.calm = true) : CallR X (.builtin "max") (rMaxV X) := by
  intro pins s σ H xs us Q I rx h
  obtain ⟨p, a, kvs, ns, rfl, hp, hd, hns, hne, q⟩ := h
  rw [Vals.ref1 rx]
  obtain ⟨z, lo, vs, rel, dd⟩ := dk_rd I.hok hd
  obtain ⟨ep, hat⟩ := dd.dictAt
  have hv : s.heap.get? p = some (vwOb a) := (show ObjOk X.prog X.w H s.heap p (vwO p a) from I.hok p _ hp).1
  have lk : kvs.length = vs.length := Paired.length rel
  have lns : ns.length = vs.length := by
    have e := congrArg List.length hns
    rw [List.length_map, List.length_map] at e
    omega
  have hvals : Vals (ns.map V.int) (vs.map (·.2)) := by
    rw [← hns]
    clear hat dd lk lns hd hns hne q z
    induction rel with
    | nil => exact .nil
    | cons a r ih => exact .cons a.2 ih
  have hP : ∀ (i : Nat) (v : Value), (∃ k : Key, vs[i]? = some (k, v)) → ∃ t, v = .int (ns.getD i 0) t := fun i v ⟨k, e⟩ => by
    have hi : i < vs.length := (List.getElem?_eq_some_iff.mp e).1
    exact vals_int hvals i v (by rw [List.getElem?_map, e]; rfl)
  refine call_max_walk ?_
  refine wpAny_pyIter_values (knd := mixKind X.prog X.w) ⟨_, hv, rfl, rfl⟩ hat ?_
  have ha : a < s.heap.objs.size := hat.lt_size
  refine ⟨s.heap.objs.size, [s.heap.objs.size, a], [s.heap.objs.size], vs.length, _, _, fun i j => decide (ns.getD i 0 > ns.getD j 0), rfl, Walks.dictValues (show X.A.in1.handled = none from I.ok.hd hc) _ a (Nat.ne_of_lt ha) vs ep, ⟨⟨_, Heap.get?_push_size _ rfl, rfl, rfl⟩, hat.push _⟩, fun b hb => ?_, by omega, CmpOf.ints_gt (fun i => ns.getD i 0) hP, fun v h' tk hv' hk => ?_⟩
  · show b < (s.heap.push _).objs.size
    rw [size_push']
    rcases List.mem_cons.mp hb with z | z
    · rw [z]
      exact Nat.lt_succ_self _
    · rw [List.mem_singleton.mp z]
      exact Nat.lt_succ_of_lt ha
  · obtain ⟨t, rfl⟩ := hP _ _ hv'
    obtain ⟨m1', m2'⟩ := argBest_gt (fun i => ns.getD i 0) (vs.length - 1)
    have m1 : argBest (fun i j => decide (ns.getD i 0 > ns.getD j 0)) (vs.length - 1) ≤ vs.length - 1 := m1'
    have m2 : ∀ j, j ≤ vs.length - 1 → ns.getD j 0 ≤ ns.getD (argBest (fun i j => decide (ns.getD i 0 > ns.getD j 0)) (vs.length - 1)) 0 := m2'
    have hk2 : ∀ b o, s.heap.get? b = some o → h'.get? b = some o := fun b o e => hk b o (fun z => by rw [List.mem_singleton.mp z] at e; exact absurd (Heap.lt_size e) (Nat.lt_irrefl _)) (Heap.get?_push_of_some _ e)
    refine ⟨.int _, H, I.kept (t' := tk) hk2, ⟨t, rfl⟩, q _ (PySem.getD_mem (by omega)) fun y hy => ?_⟩
    obtain ⟨j, hj, e⟩ := List.mem_iff_getElem.mp hy
    have z := m2 j (by omega)
    have e3 : ns.getD j 0 = y := by rw [List.getD_eq_getElem?_getD, List.getElem?_eq_getElem hj, ← e] <;> rfl
    rw [e3] at z
    exact z
def maxVR (kvs : List (Key × D)) (w : W) (Q : DK) : Prop := ∃ i ns, intsOf (dvals kvs) = some (i :: ns) ∧ Q (.int (maxI i ns)) w
def dMaxV (t : DTE) : DTE := fun env w Q => t env w fun x w1 => match x with
  | .dic kvs => maxVR kvs w1 Q
  | .ref p => ∃ kvs, w1.m p = some (.dic kvs) ∧ maxVR kvs w1 Q
  | _ => False
theorem de_maxV (hc : X.calm = true) (hm : X.mg "max" = none) (he : DE X Wv e t) (hg : Gl X "max" := by rfl) (hv : bootBuiltins "max" = some (.builtin "max") := by decide +kernel) (hbase : attributeBase e "values" X.env (eval e X.env) = eval e X.env := by rfl) (hline : (apos.endLine == cpos.line) = true := by rfl)
    (hs : starEach [.Call (.Attribute e "values" apos) [] [] cpos] X.env = (false, eval (.Call (.Attribute e "values" apos) [] [] cpos) X.env) :: starEach [] X.env := by rfl) (b1 : (backTo pos (starEach [] X.env)).any (·.1) = false := by rfl) :
    DE X Wv (.Call (.Name "max" p) [.Call (.Attribute e "values" apos) [] [] cpos] [] pos) (dMaxV t) :=
  ⟨PE_imp (pe_callB (cr_maxV hc) hg hm hv (pa_cons (pe_vw he.pe hbase hline) pa_nil hs) (by decide) (by decide) hs b1) fun σ H Qv ⟨c, g, env, w, Q, B, q, k⟩ => bindE B q fun v H1 g1 w1 x l1 B1 r1 q1 => by
    have go : ∀ {d : Addr} {kvs : List (Key × V)} {ds : List (Key × D)}, Rd H1 d (.dK kvs) → RepK X.K g1 kvs ds → maxVR ds w1 Q → ∀ p, H1 p = none → rMaxV X [.ref p] (upd H1 p (vwO p d)) Qv := fun {d kvs ds} rd rk h p hp => by
      obtain ⟨i, ns, e, q2⟩ := h
      have e2 : kvs.map Prod.snd = (i :: ns).map V.int := rk.vals.ints e
      have rd2 : Rd (upd H1 p (vwO p d)) d (.dK kvs) := by
        rcases rd with h | ⟨o, h⟩
        · exact .inl (by rw [upd_ne (fun z => by rw [z, hp] at h; cases h)]; exact h)
        · exact .inr ⟨o, by rw [upd_ne (fun z => by rw [z, hp] at h; cases h)]; exact h⟩
      refine ⟨p, d, kvs, i :: ns, rfl, upd_same, rd2, e2, Nat.succ_pos _, fun m hm hy => ?_⟩
      obtain ⟨h1, h2⟩ := maxI_spec ns i
      have e3 : m = maxI i ns := Int.le_antisymm (h2 m hm) (hy _ h1)
      rw [e3]
      exact k _ _ ⟨g1, w1, _, l1, (B1.R.allocF hp).unfr (B1.R.noF hp), .int _, q2⟩
    cases r1 with
    | dic s r => exact ⟨_, _, rfl, B1.R.rdK s, go (B1.R.rdK s) r q1⟩
    | ref a =>
      obtain ⟨kvs, em, q2⟩ := q1
      obtain ⟨vs, e1, r⟩ := B1.R.mdic em
      exact ⟨_, _, rfl, .inl e1, go (.inl e1) r q2⟩
    | _ => exact False.elim q1⟩
end
/-! ### == of what may change -/
def eqMR (neg : Bool) : DR2 := fun x y w Q => match x with
  | .ref p => ∃ m d e, w.m p = some m ∧ toPy (m.d p) = some d ∧ toPy y = some e ∧ SeqAt.shaped d = true ∧ SeqAt.shaped e = true ∧ Q (.bl (neg ^^ PyData.eqv d e)) w
  | _ => False
theorem od_neM {X : Cx} (hu : X.A.units + 64 < cLine) : OpD X (compareOp .NotEq) (eqMR true) := by
  refine ⟨_, op_neD hu, fun c g w H x y v u Q Qv R r1 r2 q k => ?_⟩
  unfold eqMR at q
  split at q
  · cases r1
    obtain ⟨m, d, e, em, h1, h2, h3, h4, q⟩ := q
    obtain ⟨g2, l2, R2, rr⟩ := R.frz em
    refine ⟨d, e, rr.dp R2 h1 (shaped_noDict h3), (r2.le l2).dp R2 h2 (shaped_noDict h4), h3, h4, ?_⟩
    have z := k _ _ ⟨g, w, _, .rfl, R, .bl _, q⟩
    simpa using z
  · exact q.elim
theorem od_eqM {X : Cx} (hu : X.A.units + 64 < cLine) : OpD X (compareOp .Eq) (eqMR false) := by
  refine ⟨_, op_eqD hu, fun c g w H x y v u Q Qv R r1 r2 q k => ?_⟩
  unfold eqMR at q
  split at q
  · cases r1
    obtain ⟨m, d, e, em, h1, h2, h3, h4, q⟩ := q
    obtain ⟨g2, l2, R2, rr⟩ := R.frz em
    refine ⟨d, e, rr.dp R2 h1 (shaped_noDict h3), (r2.le l2).dp R2 h2 (shaped_noDict h4), h3, h4, ?_⟩
    have z := k _ _ ⟨g, w, _, .rfl, R, .bl _, q⟩
    simpa using z
  · exact q.elim
end DL

/-! DLzr: d.update(e), xs.extend(e). -/
namespace DL
open PySem PySem.Spec PyProof.Rows L2
section
variable {X : Cx}
def rUpd : V → List V → Hp → VK → Prop := fun x vs H Q => ∃ a b kvs more, x = .ref a ∧ vs = [.ref b] ∧ H a = some (.dK kvs) ∧ Rd H b (.dK more) ∧ a ≠ b ∧ kvs.length + more.length ≤ sizeLine ∧ Q .non (upd H a (.dK (mergeK kvs more)))
theorem mergeK_len : ∀ {more kvs : List (Key × V)}, (mergeK kvs more).length ≤ kvs.length + more.length
  | [], kvs => Nat.le_refl _
  | (k, v) :: r, kvs => by
    have ih := mergeK_len (more := r) (kvs := putK kvs k v)
    have h1 : (putK kvs k v).length ≤ kvs.length + 1 := by
      unfold putK
      split
      · rw [List.length_map]; omega
      · rw [List.length_append]; exact Nat.le_refl _
    show (mergeK (putK kvs k v) r).length ≤ _
    rw [List.length_cons]
    omega
theorem mt_update : MtR X "dict.update" rUpd := by
  intro pins s σ H x vs v us Q I rx rv h
  obtain ⟨a, b, kvs, more, rfl, rfl, hH, hB, hab, hz, q⟩ := h
  cases rx
  obtain ⟨u, rfl, ru⟩ := rv.one
  cases ru
  obtain ⟨z, lo, vs1, rel, dd⟩ := dk_rd I.hok (.inl hH)
  obtain ⟨z2, lo2, vs2, rel2, dd2⟩ := dk_rd I.hok hB
  have l1 : kvs.length = vs1.length := Paired.length rel
  have l2 : more.length = vs2.length := Paired.length rel2
  refine call_meetsIn PySem.F.slot_dict_update dd.typeIs PySem.F.entry_dict_update (PySem.F.args_dict_update_2 _ _) (meets_dict_update (mixKind X.prog X.w) a b hab lo2)
    ⟨vs1, vs2, dd, dd2, by omega, fun h' hd' _ hs => ?_⟩
  have ho : ∃ o, h'.get? a = some o := by
    obtain ⟨o, ho, _⟩ := Heap.dictOf_iff.mp hd'
    exact ⟨o, ho⟩
  refine ⟨.non, _, I.write (t' := s.toks) (e := a) (x := a) (o := .dK (mergeK kvs more)) (by rw [hH]; exact True.intro) (.inl rfl) (fun c o hc z => (hs.2 c hc).trans z) ho ⟨Nat.le_trans mergeK_len hz, lo, _, rel2.merge rel, hd'⟩, rfl, q⟩
def updR : D → DRC := fun x ds w Q => match x, ds with
  | .ref p, [.dic more] => ∃ kvs, w.m p = some (.dic kvs) ∧ kvs.length + more.length ≤ sizeLine ∧ Q .non (w.put p (.dic (mergeD kvs more)))
  | _, _ => False
theorem md_update : MtD X "dict.update" updR := by
  refine ⟨_, mt_update, fun c g w H v x vs ds Q Qv R r1 r2 q k => ?_⟩
  unfold updR at q
  split at q
  · obtain ⟨u, rfl, a⟩ := r2.one; cases r1
    obtain ⟨kvs, e, h, q⟩ := q
    obtain ⟨ys, e1, r⟩ := R.mdic e
    obtain ⟨hG, _⟩ := R.mu _ _ e
    cases a with
    | dic s rk =>
      exact ⟨_, _, _, _, rfl, rfl, e1, R.rdK s, (fun z => by rw [z, s] at hG; cases hG), by rw [r.length, rk.length]; exact h, k _ _ ⟨g, _, .non, .rfl, R.write e (.dic (rk.merge r)), .non, q⟩⟩
  · exact q.elim
/-- xs.extend(ys), ys a new list that is let go -/
def extR : D → DRC := fun x ds w Q => match x, ds with
  | .ref p, [.ref b] => b ≠ p ∧ ∃ xs ys, w.m p = some (.lst xs) ∧ w.m b = some (.lst ys) ∧ xs.length + ys.length ≤ sizeLine ∧ Q .non ((w.put p (.lst (xs ++ ys))).del b)
  | _, _ => False
theorem md_extend : MtD X "list.extend" extR := by
  refine ⟨_, mt_extend, fun c g w H v x vs ds Q Qv R r1 r2 q k => ?_⟩
  unfold extR at q
  split at q
  · obtain ⟨u, rfl, a⟩ := r2.one; cases r1; cases a
    obtain ⟨hne, xs, ys, e, e2, h, q⟩ := q
    obtain ⟨us, e1, r⟩ := R.mlst e
    obtain ⟨us2, e3, r'⟩ := R.mlst e2
    have R2 := R.write e (.lst (r.append r'))
    obtain ⟨g2, l2, R3, _⟩ := R2.frz (show (w.put _ (.lst (xs ++ ys))).m _ = some (.lst ys) from (updM_ne hne).trans e2)
    exact ⟨_, _, _, _, rfl, rfl, e1, e3, by rw [r.length, r'.length]; exact h, k _ _ ⟨g2, _, .non, l2, R3, .non, q⟩⟩
  · exact q.elim
/-! ### methods of dicts that change -/
def isMD (x : D) (w : W) : Prop := match x with
  | .ref p => ∃ kvs, w.m p = some (.dic kvs)
  | _ => False
theorem isMD_ty {K : PySem.W.Frag} {c : Ck} {g : Gh} {w : W} {H : Hp} (R : Rel K c g w H) {v : V} {x : D} (r : Rep K g v x) (h : isMD x w) : tyV K "dict" v H := by
  cases r with
  | ref p =>
    obtain ⟨xs, e⟩ := h
    obtain ⟨vs, e1, _⟩ := R.mdic e
    exact .inr (.inr (.inl ⟨rfl, .inl ⟨_, e1⟩⟩))
  | _ => exact False.elim h
def dDM (r : D → DRC) (to : DTE) (t : DTA) : DTE := fun env w Q => to env w fun x w1 => isMD x w1 ∧ t env w1 fun xs w2 => r x xs w2 Q
variable {Wv : WX} {o e : Expr} {es : List Expr} {to : DTE} {t : DTA} {id : String} {name : Str} {apos cpos : Pos} {r : D → DRC}
theorem de_dm (slot : Slot "dict" name id) (hty : typeOf (.builtin id) = pure (.type "method_descriptor")) (rule : MtD X id r) (ho : DE X Wv o to) (ha : DA X Wv (e :: es) t)
    (hbase : attributeBase o name X.env (eval o X.env) = eval o X.env := by rfl)
    (hfew : ((backTo cpos (starEach (e :: es) X.env)).all (fun x => !x.1) && (backToKw cpos (keywordEach [] X.env)).all (fun x => x.1.isSome)
      && decide ((e :: es).length + ([] : List Keyword).length + (if ([] : List Keyword).isEmpty then 0 else 1) < 30)) = true := by rfl)
    (hline : (apos.endLine == cpos.line) = true := by rfl) (hs : starEach (e :: es) X.env = (false, eval e X.env) :: starEach es X.env := by rfl) (hplain : (backTo cpos (starEach es X.env)).any (·.1) = false := by rfl) :
    DE X Wv (.Call (.Attribute o name apos) (e :: es) [] cpos) (dDM r to t) := by
  obtain ⟨r0, h0, imp⟩ := rule
  refine ⟨PE_imp (pe_bm PySem.F.plainAttrs_dict slot hty h0 ho.pe ha.pa hbase hfew hline hs hplain) fun σ H Qv ⟨c, g, env, w, Q, B, q, k⟩ => bindE B q fun v H1 g1 w1 x l1 B1 r1 q1 => ?_⟩
  exact ⟨isMD_ty B1.R r1 q1.1, bindA B1 q1.2 fun vs H2 g2 w2 xs l2 B2 r2 q2 => imp c g2 w2 H2 _ _ vs xs Q Qv B2.R (r1.le l2) r2 q2 fun v H' z => k v H' ((z.up l2).up l1)⟩
end
end DL

/-! DLzs: list comprehensions with two generators (the inner one over what needs no lock). -/
namespace DL
open PySem PySem.Spec PyProof.Rows L2
def liftI0 (K : PySem.W.Frag) (Wv : WX) (ti : DTI) : TI := fun σ H Rv => ∃ c g env w Q, Bx K Wv c g env w σ H ∧ ti env w Q ∧
  ∀ items w1 H1 g1 J, g.le g1 → Rel K c g1 w1 H1 → IsIt K c.L g1 items J → Q items w1 → Rv J H1
structure DI0 (X : Cx) (Wv : WX) (tg iter : Expr) (ti : DTI) : Prop where
  pi : PI X tg iter (liftI0 X.K Wv ti)
section
variable {X : Cx} {Wv : WX} {e tg : Expr} {t : DTE}
theorem di0_str (h : DE X Wv e t) : DI0 X Wv tg e (dItS t) :=
  ⟨PI_imp (pi_str h.pe) fun σ H Rv ⟨c, g, env, w, Q, B, q, k⟩ => bindE B q fun v H1 g1 w1 x l1 B1 r1 q1 => by
    cases r1 with
    | str s => exact ⟨_, rfl, k _ w1 H1 g1 _ l1 B1.R isIt_str q1⟩
    | _ => exact False.elim q1⟩
end
theorem wipe_wipe {σ : St} {vs : List Nat} : wipe (wipe σ vs) vs = wipe σ vs := by
  have ww : ∀ us : List Nat, (∀ i ∈ us, i ∈ vs) → wipe (wipe σ vs) us = wipe σ vs := by
    intro us
    induction us with
    | nil => intro _; rfl
    | cons u us ih =>
      intro hu
      show (wipe (wipe σ vs) us).set u Option.none = wipe σ vs
      rw [ih fun i hi => hu i (List.mem_cons_of_mem _ hi)]
      have key : ∀ ws : List Nat, u ∈ ws → (wipe σ ws).set u none = wipe σ ws := by
        intro ws
        induction ws with
        | nil => intro h; cases h
        | cons v ws ih2 =>
          intro h
          unfold wipe
          by_cases e : u = v
          · subst e; rw [List.set_set]
          · rw [List.set_comm _ _ (Ne.symm e), ih2 ((List.mem_cons.mp h).resolve_left e)]
      exact key vs (hu u List.mem_cons_self)
  exact ww vs fun _ h => h
def dLc2 (fin : List D → W → DK → Prop) (ti : DTI) (gd : DTG) (tt : DTT) (ti1 : DTI) (gd1 : DTG) (tt1 : DTT) (te : DTE) (vs vs1 : List Nat) : DTE := fun env w Q => ti env w fun items w1 => ∃ Pv : Nat → List D → W → Prop, Pv 0 [] w1 ∧
  (∀ i x acc w2, items[i]? = some x → Pv i acc w2 → gd x (wipeD env vs) w2.mute fun env2 w3 => tt env2 w3 fun b w4 =>
    if b = true then ti1 env2 w4 fun items1 w5 => ∃ Pw : Nat → List D → W → Prop, Pw 0 acc w5 ∧
      (∀ j y acc2 w6, items1[j]? = some y → Pw j acc2 w6 → acc2.length < sizeLine ∧ gd1 y (wipeD env2 vs1) w6 fun env3 w7 => tt1 env3 w7 fun b w8 => if b = true then te env3 w8 fun z w9 => Pw (j + 1) (acc2 ++ [z]) w9 else Pw (j + 1) acc2 w8) ∧
      ∀ acc2 w6, Pw items1.length acc2 w6 → Pv (i + 1) acc2 (w6.as w1)
    else Pv (i + 1) acc (w4.as w1)) ∧
  ∀ acc w2, Pv items.length acc w2 → fin acc w2 Q
theorem lc2_lift {X : Cx} {Wv : WX} {fin : List D → W → DK → Prop} (hfin : FinOk X.K fin) {ti ti1 : DTI} {gd gd1 : DTG} {tt tt1 : DTT} {te : DTE} {sl vs sl1 vs1 : List Nat} (hsl : ∀ i ∈ sl, i ∈ vs) (hsl1 : ∀ i ∈ sl1, i ∈ vs1) {σ : St} {H : Hp} {Qv : VK}
    (h : liftE X.K Wv (dLc2 fin ti gd tt ti1 gd1 tt1 te vs vs1) σ H Qv) :
    tLc2 (liftI X Wv ti) (liftG X.K W0 sl gd) (liftT X.K W0 tt) (liftI0 X.K W0 ti1) (liftG X.K W0 sl1 gd1) (liftT X.K W0 tt1) (liftE X.K W0 te) vs vs1 σ H (unlV X Qv) := by
  obtain ⟨c, g, env, w, Q, B, q, k⟩ := h
  refine ⟨c, g, env, w, _, B, q, fun items w1 H1 g1 J c1 l1 lk R1 it q1 => fun D hD => ?_⟩
  obtain ⟨Pv, h0, hstep, hd⟩ := q1
  have hF : c1.F D = none := R1.noF hD
  refine ⟨fun i m H => m = items.length - i ∧ i ≤ items.length ∧ ∃ g2 acc accv w2, g1.le g2 ∧ RepL X.K g2 accv acc ∧ Rel X.K (c1.fr D (.lst accv)) g2 w2 H ∧ Pv i acc w2,
    ⟨items.length, by simp, Nat.zero_le _, g1, [], [], w1, .rfl, .nil, R1.allocF hD, h0⟩, ?_⟩
  rintro i m H2 ⟨rfl, hi, g2, acc, accv, w2, l2, r2, R2, p⟩
  by_cases hlt : i < items.length
  · refine .inr ⟨it.go (c1.fr D (.lst accv)) i w2 H2 g2 rfl l2 R2 hlt, fun H3 => ∃ g3 acc accv w3, g1.le g3 ∧ RepL X.K g3 accv acc ∧ Rel X.K (c1.fr D (.lst accv)) g3 w3 H3 ∧ Pv (i + 1) acc w3, fun H3 ⟨g3, acc3, accv3, w3, z⟩ =>
      ⟨items.length - (i + 1), by omega, rfl, hlt, g3, acc3, accv3, w3, z⟩, fun x H' y => ?_⟩
    have hx : items[i]? = some items[i] := by simp [hlt]
    obtain ⟨g3, l3, R3, r3, _⟩ := it.yld (c1.fr D (.lst accv)) i w2 H2 g2 x H' _ rfl l2 R2 hx y
    have e1 : w1.e = c1.e := R1.ex
    have Bm : Bx X.K W0 (c1.fr D (.lst accv)).mute g3 (wipeD env vs) w2.mute (wipe σ vs) H' := ⟨R3.mute, (B.E.le ((l1.trans l2).trans l3)).wipe vs, fun _ _ _ _ _ _ _ _ px => by
      obtain ⟨_, _, _, _, _, _, _, z, _⟩ := px
      exact z⟩
    refine ⟨_, g3, _, _, _, _, Bm, r3, hstep i _ acc w2 hx p, fun env4 w4 σ4 H4 g4 l4 B4 s4 q4 => ⟨?_, ?_⟩⟩
    · rw [s4 vs hsl]
      exact wipe_wipe
    · refine bindT B4 q4 fun b H5 g5 w5 l5 B5 q5 => ?_
      have c3 : ∀ {accv : List V} {g' : Gh} {w' : W} {H' : Hp}, Rel X.K (c1.fr D (.lst accv)).mute g' w' H' → Rel X.K (c1.fr D (.lst accv)) g' (w'.as w1) H' := fun R => R.unmute e1
      have l25 := ((l2.trans l3).trans l4).trans l5
      cases b with
      | false => exact iteF ⟨g5, acc, accv, w5.as w1, l25, r2.le ((l3.trans l4).trans l5), c3 B5.R, q5⟩
      | true =>
        refine iteT ?_
        refine ⟨_, g5, _, _, _, B5, q5, fun items1 w6 H6 g6 J1 l6 R6 it1 q6 => ?_⟩
        obtain ⟨Pw, p0, pstep, pd⟩ := q6
        refine ⟨fun j m H => m = items1.length - j ∧ j ≤ items1.length ∧ ∃ g7 acc accv w7, g6.le g7 ∧ RepL X.K g7 accv acc ∧ Rel X.K (c1.fr D (.lst accv)).mute g7 w7 H ∧ Pw j acc w7,
          ⟨items1.length, by simp, Nat.zero_le _, g6, acc, accv, w6, .rfl, r2.le (((l3.trans l4).trans l5).trans l6), R6, p0⟩, ?_⟩
        rintro j m H7 ⟨rfl, hj, g7, acc7, accv7, w7, l7, r7, R7, p7⟩
        by_cases hlt1 : j < items1.length
        · refine .inr ⟨it1.go (c1.fr D (.lst accv7)).mute j w7 H7 g7 rfl l7 R7 hlt1, fun H8 => ∃ g8 acc accv w8, g6.le g8 ∧ RepL X.K g8 accv acc ∧ Rel X.K (c1.fr D (.lst accv)).mute g8 w8 H8 ∧ Pw (j + 1) acc w8, fun H8 ⟨g8, acc8, accv8, w8, z⟩ =>
            ⟨items1.length - (j + 1), by omega, rfl, hlt1, g8, acc8, accv8, w8, z⟩, fun x1 H' y1 => ?_⟩
          have hx1 : items1[j]? = some items1[j] := by simp [hlt1]
          obtain ⟨g8, l8, R8, r8, _⟩ := it1.yld (c1.fr D (.lst accv7)).mute j w7 H7 g7 x1 H' _ rfl l7 R7 hx1 y1
          have Bn : Bx X.K W0 (c1.fr D (.lst accv7)).mute g8 (wipeD env4 vs1) w7 (wipe σ4 vs1) H' := ⟨R8, (B5.E.le ((l6.trans l7).trans l8)).wipe vs1, fun _ _ _ _ _ _ _ _ px => by
            obtain ⟨_, _, _, _, _, _, _, z, _⟩ := px
            exact z⟩
          obtain ⟨hz, st⟩ := pstep j _ acc7 w7 hx1 p7
          refine ⟨_, g8, _, _, _, _, Bn, r8, st, fun env9 w9 σ9 H9 g9 l9 B9 s9 q9 => ⟨?_, ?_⟩⟩
          · rw [s9 vs1 hsl1]
            exact wipe_wipe
          · refine bindT B9 q9 fun b H10 g10 w10 l10 B10 q10 => ?_
            cases b with
            | false => exact iteF ⟨g10, acc7, accv7, w10, ((l7.trans l8).trans l9).trans l10, r7.le ((l8.trans l9).trans l10), B10.R, q10⟩
            | true =>
              refine iteT (bindE B10 q10 fun v H11 g11 w11 z l11 B11 r11 q11 => ?_)
              have R11 : Rel X.K (c1.mute.fr D (.lst accv7)) g11 w11 H11 := B11.R
              refine ⟨accv7, (R11.frm D _ upd_same).1, by rw [r7.length]; exact hz, g11, acc7 ++ [z], accv7 ++ [v], w11, (((l7.trans l8).trans l9).trans l10).trans l11, (r7.le (((l8.trans l9).trans l10).trans l11)).append (.cons r11 .nil), R11.writeF, q11⟩
        · have e : j = items1.length := by omega
          subst e
          exact .inl ⟨it1.stop (c1.fr D (.lst accv7)).mute w7 H7 g7 rfl l7 R7, g7, acc7, accv7, w7.as w1, (l25.trans l6).trans l7, r7, c3 R7, pd acc7 w7 p7⟩
  · have e : i = items.length := by omega
    subst e
    exact .inl ⟨it.stop (c1.fr D (.lst accv)) w2 H2 g2 rfl l2 R2, lk.out (l1.trans l2) l2 k (hfin c1 g2 w2 H2 D accv acc Q R2 hF r2 (hd acc w2 p))⟩
section
variable {X : Cx} {Wv : WX} {elt tg iter tg1 iter1 : Expr} {ifs ifs1 : List Expr} {scope : Scope} {own : List (Str × Nat)} {sl sl1 vs1 : List Nat} {pos : Pos} {ti ti1 : DTI} {gd gd1 : DTG} {tt tt1 : DTT} {te : DTE} {fin : List D → W → DK → Prop}
theorem de_lc2 (hfin : FinOk X.K fin) (hc : X.calm = true) (hN : X.N.Nodup) (hi : DI X Wv tg iter ti) (ok : blkC X.N X.env.scope scope own = true) (hv : (vs1.all fun i => (own.map (·.2)).contains i) = true)
    (hg : ∀ (s : Shared) (H : Hp) (C : Addr) (cl : List (Str × Addr)) (fp : List Addr), DG (X.blk s H scope (compEnvC scope cl C X.env) fp) W0 tg sl gd)
    (ht : ∀ (s : Shared) (H : Hp) (C : Addr) (cl : List (Str × Addr)) (fp : List Addr), DTs (X.blk s H scope (compEnvC scope cl C X.env) fp) W0 ifs tt)
    (hi1 : ∀ (s : Shared) (H : Hp) (C : Addr) (cl : List (Str × Addr)) (fp : List Addr), DI0 (X.blk s H scope (compEnvC scope cl C X.env) fp) W0 tg1 iter1 ti1)
    (hg1 : ∀ (s : Shared) (H : Hp) (C : Addr) (cl : List (Str × Addr)) (fp : List Addr), DG (X.blk s H scope (compEnvC scope cl C X.env) fp) W0 tg1 sl1 gd1)
    (ht1 : ∀ (s : Shared) (H : Hp) (C : Addr) (cl : List (Str × Addr)) (fp : List Addr), DTs (X.blk s H scope (compEnvC scope cl C X.env) fp) W0 ifs1 tt1)
    (he : ∀ (s : Shared) (H : Hp) (C : Addr) (cl : List (Str × Addr)) (fp : List Addr), DE (X.blk s H scope (compEnvC scope cl C X.env) fp) W0 elt te)
    (hsl : (sl.all fun i => (own.map (·.2)).contains i) = true := by rfl) (hsl1 : (sl1.all fun i => vs1.contains i) = true := by rfl) (hs : ∀ x, foldedSetIterable iter X.env x = pure x := by intro _; rfl) (hs1 : ∀ env x, foldedSetIterable iter1 env x = pure x := by intro _ _; rfl) :
    DE X Wv (.ListComp elt [⟨tg, iter, ifs, 0⟩, ⟨tg1, iter1, ifs1, 0⟩] scope pos) (dLc2 fin ti gd tt ti1 gd1 tt1 te (own.map (·.2)) vs1) :=
  ⟨PE_imp (pe_unl (pe_lc2 hc hN hi.pi (blkOk_by ok) (fun i hi => by simpa using List.all_eq_true.mp hv i hi) (fun s H C cl fp => (hg s H C cl fp).pg) (fun s H C cl fp => (ht s H C cl fp).pts) (fun s H C cl fp => (hi1 s H C cl fp).pi) (fun s H C cl fp => (hg1 s H C cl fp).pg) (fun s H C cl fp => (ht1 s H C cl fp).pts) (fun s H C cl fp => (he s H C cl fp).pe) hs hs1))
    fun σ H Qv h => lc2_lift hfin (fun i hi => by simpa using List.all_eq_true.mp hsl i hi) (fun i hi => by simpa using List.all_eq_true.mp hsl1 i hi) h⟩
theorem ds_setLc2 (hfin : FinOk X.K fin) {i : Nat} {y : Str} {py spos : Pos} (hc : X.calm = true) (hN : X.N.Nodup) (hi : DI X Wv tg iter ti) (ok : blkC X.N X.env.scope scope own = true) (hv : (vs1.all fun i => (own.map (·.2)).contains i) = true)
    (hg : ∀ (s : Shared) (H : Hp) (C : Addr) (cl : List (Str × Addr)) (fp : List Addr), DG (X.blk s H scope (compEnvC scope cl C X.env) fp) W0 tg sl gd)
    (ht : ∀ (s : Shared) (H : Hp) (C : Addr) (cl : List (Str × Addr)) (fp : List Addr), DTs (X.blk s H scope (compEnvC scope cl C X.env) fp) W0 ifs tt)
    (hi1 : ∀ (s : Shared) (H : Hp) (C : Addr) (cl : List (Str × Addr)) (fp : List Addr), DI0 (X.blk s H scope (compEnvC scope cl C X.env) fp) W0 tg1 iter1 ti1)
    (hg1 : ∀ (s : Shared) (H : Hp) (C : Addr) (cl : List (Str × Addr)) (fp : List Addr), DG (X.blk s H scope (compEnvC scope cl C X.env) fp) W0 tg1 sl1 gd1)
    (ht1 : ∀ (s : Shared) (H : Hp) (C : Addr) (cl : List (Str × Addr)) (fp : List Addr), DTs (X.blk s H scope (compEnvC scope cl C X.env) fp) W0 ifs1 tt1)
    (he : ∀ (s : Shared) (H : Hp) (C : Addr) (cl : List (Str × Addr)) (fp : List Addr), DE (X.blk s H scope (compEnvC scope cl C X.env) fp) W0 elt te)
    (hy : X.N[i]? = some y := by rfl) (hyl : X.env.scope.names.lookup y = some .local := by rfl) (hsw : swapsWith (.ListComp elt [⟨tg, iter, ifs, 0⟩, ⟨tg1, iter1, ifs1, 0⟩] scope pos) (some (.Name y py)) spos.line X.env = pure true := by exact sw_true rfl rfl rfl (by decide +kernel))
    (hsl : (sl.all fun i => (own.map (·.2)).contains i) = true := by rfl) (hsl1 : (sl1.all fun i => vs1.contains i) = true := by rfl) (hs : ∀ x, foldedSetIterable iter X.env x = pure x := by intro _; rfl) (hs1 : ∀ env x, foldedSetIterable iter1 env x = pure x := by intro _ _; rfl) :
    DS X Wv (.Assign [.Name y py] (.ListComp elt [⟨tg, iter, ifs, 0⟩, ⟨tg1, iter1, ifs1, 0⟩] scope pos) spos) (dSet i (dLc2 fin ti gd tt ti1 gd1 tt1 te (own.map (·.2)) vs1)) :=
  ⟨PS_imp (ps_unl (ps_setLc2 hc hN hy hyl hsw hi.pi (blkOk_by ok) (fun i hi => by simpa using List.all_eq_true.mp hv i hi) (fun s H C cl fp => (hg s H C cl fp).pg) (fun s H C cl fp => (ht s H C cl fp).pts) (fun s H C cl fp => (hi1 s H C cl fp).pi) (fun s H C cl fp => (hg1 s H C cl fp).pg) (fun s H C cl fp => (ht1 s H C cl fp).pts) (fun s H C cl fp => (he s H C cl fp).pe) hs hs1)) fun Dv σ H ⟨c, g, env, w, D, B, q, k⟩ =>
    lc2_lift hfin (fun i hi => by simpa using List.all_eq_true.mp hsl i hi) (fun i hi => by simpa using List.all_eq_true.mp hsl1 i hi) ⟨c, g, env, w, _, B, q, fun v H1 ⟨g1, w1, d, l1, R1, r1, q1⟩ => k.nx _ w1 _ H1 g1 l1 ((B.step l1 R1).env ((B.E.le l1).set r1)) q1⟩⟩
end
/-! ### xs[a:b], a new list that will change -/
def slMR : D → Option Int → Option Int → W → DK → Prop := fun x lo hi w Q => match x with
  | .lst xs => ∀ q, w.m q = none → Q (.ref q) (w.put q (.lst (cutD xs lo hi)))
  | .ref p => ∃ xs, w.m p = some (.lst xs) ∧ ∀ q, w.m q = none → Q (.ref q) (w.put q (.lst (cutD xs lo hi)))
  | _ => False
def dSlM (t : DTE) (tl th : DTO) : DTE := fun env w Q => t env w fun x w1 => tl env w1 fun l w2 => th env w2 fun h w3 => slMR x l h w3 Q
section
variable {X : Cx} {Wv : WX} {e : Expr} {te : DTE} {lo hi : Option Expr} {tl th : DTO} {pos p2 : Pos}
theorem de_sliceM (he : DE X Wv e te) (hl : DO X Wv lo tl) (hu : DO X Wv hi th) : DE X Wv (.Subscript e (.Slice lo hi none p2) pos) (dSlM te tl th) := by
  refine ⟨PE_imp (pe_slice (sl_str.or (sl_list.or sl_tupA)) he.pe hl.po hu.po) fun σ H Qv ⟨c, g, env, w, Q, B, q, k⟩ => ?_⟩
  refine bindE B q fun v H1 g1 w1 x l1 B1 r1 q1 => ⟨c, g1, env, w1, _, B1, q1, fun l H2 ⟨g2, w2, l2, R2, q2⟩ => ⟨c, g2, env, w2, _, B1.step l2 R2, q2, fun h H3 ⟨g3, w3, l3, R3, q3⟩ => ?_⟩⟩
  have r1 := r1.le (l2.trans l3)
  have k3 : ∀ v H', PQ X.K c g3 Q v H' → Qv v H' := fun v H' z => k v H' (((z.up l3).up l2).up l1)
  cases r1 with
  | lst s r => exact .inr (.inl ⟨_, _, rfl, R3.sqL s, newLM R3 (r.cut l h) q3 k3⟩)
  | ref p =>
    obtain ⟨xs, e1, q3⟩ := (show ∃ xs, _ from q3)
    obtain ⟨ys, e2, r⟩ := R3.mlst e1
    exact .inr (.inl ⟨_, _, rfl, SqL.of e2, newLM R3 (r.cut l h) q3 k3⟩)
  | _ => exact False.elim q3
end
/-! ### list(text) -/
theorem vals_signs : ∀ {cs : List Nat} {us : List Value}, us.length = cs.length → (∀ (j : Nat) (v : Value), us[j]? = some v → ∃ c u, cs[j]? = some c ∧ v = Value.str ⟨#[c]⟩ u) → Vals (cs.map fun c => V.str ⟨#[c]⟩) us
  | [], [], _, _ => .nil
  | [], _ :: _, h, _ => by cases h
  | _ :: _, [], h, _ => by cases h
  | c :: cs, u :: us, hl, h => by
    obtain ⟨c', t, e, e2⟩ := h 0 u rfl
    cases e
    refine .cons ⟨t, e2⟩ (vals_signs (Nat.succ.inj hl) fun j v hj => ?_)
    obtain ⟨c2, t2, e3, e4⟩ := h (j + 1) v (by simpa using hj)
    exact ⟨c2, t2, by simpa using e3, e4⟩
theorem rep_signs {K : PySem.W.Frag} {g : Gh} : ∀ cs : List Nat, RepL K g (cs.map fun c => V.str ⟨#[c]⟩) (cs.map fun c => D.str ⟨#[c]⟩)
  | [] => .nil
  | c :: cs => .cons (.str _) (rep_signs cs)
def listSR : DRC := fun xs w Q => match xs with
  | [.str x] => x.length ≤ sizeLine ∧ Q (.lst (signs x)) w
  | _ => False
section
variable {X : Cx}
theorem call_listS (hc : X.calm = true) : CallR X (.type "list") (fun xs H Q => ∃ x : Str, xs = [.str x] ∧ x.length ≤ sizeLine ∧ ∀ l, H l = none → Q (.ref l) (upd H l (.lst (x.cps.toList.map fun c => V.str ⟨#[c]⟩)))) := by
  intro pins s σ H xs us Q I r h
  obtain ⟨x, rfl, hz, q⟩ := h
  obtain ⟨u, rfl, rx⟩ := vals1 r
  obtain ⟨t, rfl⟩ : ∃ t, u = Value.str x t := rx
  refine call_list_str (I.ok.hd hc) x t (hn := hz) fun h' tk acc' c' hk hS' hacc => ?_
  have hv : Vals (x.cps.toList.map fun c => V.str ⟨#[c]⟩) acc'.toList := vals_signs (by rw [Array.length_toList, hacc.1]; rfl) fun j v e => by
    obtain ⟨c, t, e1, e2⟩ := hacc.2 j v (by rw [← Array.getElem?_toList]; exact e)
    exact ⟨c, t, by rw [Array.getElem?_toList]; exact e1, e2⟩
  exact ⟨.ref s.heap.objs.size, _, I.laid (t' := tk) hk (Nat.le_refl _) (show ObjOk X.prog X.w _ h' _ (.lst _) from ⟨by rw [List.length_map]; exact hz, acc'.toList, c', hv, by rw [Array.toArray_toList]; exact hS'⟩), rfl, q _ (I.hok.fresh (Nat.le_refl _))⟩
theorem cd_listS (hc : X.calm = true) : CallD X (.type "list") listSR := by
  refine ⟨_, call_listS hc, fun c g w H vs ds Q Qv R r q k => ?_⟩
  unfold listSR at q
  split at q
  · obtain ⟨v, rfl, a⟩ := r.one
    cases a
    exact ⟨_, rfl, q.1, newL R (rep_signs _) q.2 k⟩
  · exact q.elim
end
end DL

/-! DLzt: own exceptions with a field: an __init__ that calls the base's and keeps one thing. -/
namespace DL
open PySem PySem.Spec PyProof.Rows L2
/-! ### what the class must be -/
def oexIn (K : PySem.W.Frag) (C : Addr) : Bool := match K.lookup C with
  | some ⟨.type "type", _, .cls cd, sl⟩ => (match cd.mro, sl.toList with
    | .ref C1 :: bm, [_, _, _, _, some (.builtin n), _] => C1 == C && n == "ValueError.__new__" && !cd.hasDel && cd.hasDict && PySem.HandSPX.refsVE bm
    | _, _ => false)
  | _ => false
theorem oex_of {K : PySem.W.Frag} {C : Addr} (q : oexIn K C = true) (sa : PySem.W.findIn K (.ref C) "__setattr__" = some (some (.builtin "object.__setattr__"))) (ex : PySem.W.subIn K (.ref C) (.type "BaseException") = some true)
    (ty : PySem.W.typeIn K (.ref C) = some (.type "type")) (kp : PySem.W.keepIn K (.ref C) = true) : OexC K C := by
  refine ⟨?_, sa, ex, ty, kp⟩
  unfold oexIn at q
  split at q
  · rename_i dd cd sl ho
    split at q
    · rename_i C1 bm k0 k1 k2 k3 n k5 hm hs
      simp only [Bool.and_eq_true, beq_iff_eq, Bool.not_eq_true'] at q
      obtain ⟨⟨⟨⟨rfl, rfl⟩, hdel⟩, hdic⟩, ht⟩ := q
      obtain ⟨nm, bs, mro, ns, qn, hd, sn, sub, ab, col, del⟩ := cd
      dsimp only at hm hdel hdic
      subst hm hdel hdic
      have hsl : sl = #[k0, k1, k2, k3, some (.builtin "ValueError.__new__"), k5] := by
        obtain ⟨l⟩ := sl
        simp only at hs
        rw [hs]
      subst hsl
      exact ⟨nm, qn, ns, bs, bm, sn, sub, ab, col, dd, k0, k1, k2, k3, k5, ho, ht⟩
    · cases q
  · cases q
/-- the base class, whose __init__ is ValueError's -/
structure BasC (K : PySem.W.Frag) (mg : Str → Option Value) (n : Str) : Prop where
  ex : ∃ S, mg n = some (.ref S) ∧ PySem.W.specialIn K (.ref S) "__getattribute__" = some (some (.builtin "type.__getattribute__")) ∧ PySem.W.readsIn K S (.type "type") = true ∧ PySem.W.findCls K (.ref S) (.type "type") "__init__" = some (.val (.builtin "ValueError.__init__"))
section
variable {X : Cx} {e : Expr} {es : List Expr} {ta : TA} {n : Str} {p1 p2 pos : Pos}
/-- S.__init__(self, ..), S an own class over ValueError -/
theorem pe_suinit {pl : Sem Bool} (B : BasC X.K X.mg n) (ha : PA X (e :: es) ta) (hg : Gl X n := by rfl) (hdb : (n == ("__debug__" : Str)) = false := by decide)
    (hc : eval (.Call (.Attribute (.Name n p1) "__init__" p2) (e :: es) [] pos) X.env = (do
      let ov ← eval (.Name n p1) X.env
      standAt p2.atName
      let (f, first) ← holding [ov] (getMethod ov "__init__" pl)
      callWith pos f first (backTo pos (starEach (e :: es) X.env)) (backToKw pos (keywordEach [] X.env))) := by rfl)
    (he : starEach (e :: es) X.env = (false, eval e X.env) :: starEach es X.env := by rfl) (hpl : (backTo pos (starEach es X.env)).any (·.1) = false := by rfl) :
    PE X (.Call (.Attribute (.Name n p1) "__init__" p2) (e :: es) [] pos) (tVeI X.K ta) := by
  obtain ⟨S, hm, ga, rd, fc⟩ := B.ex
  refine ⟨fun pins s σ H Q I h => ?_⟩
  refine PySem.W.methodCall_KW (ld_glob I hg hm ?_ hdb) hc
  refine PySem.W.method_cls I.kIn ga (PySem.W.cls_value I.kIn rd fc (by decide +kernel) ?_)
  refine PyProof.Rows.callWith_method1 (thn (ha.run pos pins _ σ H _ (I.tok _) h) fun us s1 ⟨vs, H1, I1, r1, a, C, ws, ev, hl, T, ea, q⟩ => ?_) he hpl
  subst ev
  cases r1 with
  | @cons _ u0 _ ur ra rw1 =>
    obtain rfl : u0 = Value.ref a := ra
    exact oinit_ok T I1 ea (by rw [← Paired.length rw1, sizeLine_eq]; omega) fun s2 J => ⟨.non, H1, J, rfl, q⟩
end
/-- what such an __init__ makes of the new exception -/
def okN (num : Bool) (v : V) : Prop := num = true → ∃ i : Int, v = .int i ∧ i.natAbs.log2 < 1920
def okND (num : Bool) (d : D) : Prop := num = true → ∃ i : Int, d = .int i ∧ i.natAbs.log2 < 1920
def exiSp (K : PySem.W.Frag) (C : Addr) (f : Str) (num : Bool) : Sp := fun vs H Q _ => ∃ a v, vs = [.ref a, v] ∧ okN num v ∧ H a = some (exo a C none) ∧ ∀ dx, H dx = none → dx ≠ a → Q .non (upd (upd H dx (exd dx [(f, v)])) a (exo a C (some dx)))
structure DExi (P : Program) (w : World) (K : PySem.W.Frag) (mg : Str → Option Value) (base : Heap) (k : Nat) (n f : Str) (num : Bool) : Prop where
  ex : ∃ (C fI : Addr) (fd : FuncData) (ps : List Str), ClsAt K n C ∧ mg n = some (.ref C) ∧ OexC K C ∧ PySem.W.findIn K (.ref C) "__init__" = some (some (.ref fI)) ∧ PySem.W.typeIn K (.ref fI) = some (.type "function") ∧
    FnG P w K mg base k fI fd ps (exiSp K C f num) ∧ Binds K fd ps []
theorem DExi.mono {P : Program} {w : World} {K : PySem.W.Frag} {mg : Str → Option Value} {base : Heap} {j k : Nat} {n f : Str} {num : Bool} (c : DExi P w K mg base j n f num) (h : j ≤ k) : DExi P w K mg base k n f num :=
  let ⟨C, fI, fd, ps, a, b, d, e, f, F, r⟩ := c.ex; ⟨C, fI, fd, ps, a, b, d, e, f, F.mono h, r⟩
/-- the facts of the class and its __init__ -/
structure FnEx (K : PySem.W.Frag) (mg : Str → Option Value) (n f qual : Str) (st : Stmt) (ps : List Str) : Prop where
  ex : ∃ (C fI : Addr) (fd : FuncData), ClsAt K n C ∧ mg n = some (.ref C) ∧ OexC K C ∧ PySem.W.findIn K (.ref C) "__init__" = some (some (.ref fI)) ∧ PySem.W.typeIn K (.ref fI) = some (.type "function") ∧ PySem.W.findIn K (.ref C) f = some none ∧
    Fun K "__init__" qual st fI fd ∧ Binds K fd ps []
section
variable {K : PySem.W.Frag} {h : Heap} {mg : Str → Option Value} {C g : Addr} {R : Prop} {oc : Value} {od an : Option Addr} {osl : Array (Option Value)} {kV doc pm cdv ct : Value}
theorem FnEx.ofC (n f qual : Str) (st : Stmt) (ps : List Str) (kC : ClsAt K n C) (hm : mg n = some (.ref C))
    (hb : ∀ (kV doc pm : Value) (an : Option Addr) (cdv ct : Value) (us : List Value), us.length = ps.length → bindArgs (PySem.W.fnOf "__init__" qual (defArgs st) (defBody st) (defScope st) .none kV doc pm an cdv ct) ⟨us, []⟩ = pure (ps.zip us))
    (ox : oexIn K C = true) (sa : PySem.W.findIn K (.ref C) "__setattr__" = some (some (.builtin "object.__setattr__"))) (ex : PySem.W.subIn K (.ref C) (.type "BaseException") = some true) (ty : PySem.W.typeIn K (.ref C) = some (.type "type")) (kp : PySem.W.keepIn K (.ref C) = true)
    (a : PySem.W.findIn K (.ref C) "__init__" = some (some (.ref g))) (i : PySem.W.isFn K (.ref g) = true) (nf : PySem.W.findIn K (.ref C) f = some none) (l : K.lookup g = some ⟨oc, od, .func (PySem.W.fnOf "__init__" qual (defArgs st) (defBody st) (defScope st) .none kV doc pm an cdv ct), osl⟩)
    (c : PySem.W.codeIn K cdv qual = true) (k : PySem.W.keepIn K (.ref g) = true) (r : FnEx K mg n f qual st ps → R) : R := by
  have F := fun_mk (x := "__init__") (st := st) l c k
  exact r ⟨⟨C, g, _, kC, hm, oex_of ox sa ex ty kp, a, beq_iff_eq.mp i, nf, F, F.binds hb⟩⟩
theorem BasC.of {n : Str} {S : Addr} (m : mg n = some (.ref S)) (ga : PySem.W.specialIn K (.ref S) "__getattribute__" = some (some (.builtin "type.__getattribute__"))) (rd : PySem.W.readsIn K S (.type "type") = true)
    (fc : PySem.W.findCls K (.ref S) (.type "type") "__init__" = some (.val (.builtin "ValueError.__init__"))) : BasC K mg n := ⟨⟨S, m, ga, rd, fc⟩⟩
end
section
variable {P : Program} {w : World} {K : PySem.W.Frag} {mg : Str → Option Value} {base : Heap}
/-- such an __init__ by its body: S.__init__(self, message) and self.f = what was handed in -/
theorem exi_mk {n f f0 qual pr : Str} {st : Stmt} {k : Nat} {num : Bool} {tm : TE} (F : FnEx K mg n f qual st ["self", pr]) (S : FnScope ["self", pr] ["self", pr] (defScope st))
    (htm : ∀ σ H Q v, σ[1]? = some (some v) → okN num v → (∀ x : Str, Q (.str x) H) → tm σ H Q)
    (hb : ∀ (f : Addr) (cdv : Value) (A : Around) (outer : List Env) (s : Shared) (H : Hp) (E : XK), PSs (cxOf (L2.CX P w) P w K mg base ["self", pr] qual (defScope st) f cdv A outer s H E) (defBody st) (tSeq (tDrop (tVeI K (tCons (tVar 0) (tCons tm tNil)))) (tOst K f0 (tVar 0) (tVar 1)))) (e0 : f0 = f := by rfl) :
    DExi P w K mg base (k + 1) n f num := by
  subst e0
  obtain ⟨C, fI, fd, kC, hm, T, iC, tI, nf, FF, b⟩ := F.ex
  refine ⟨C, fI, fd, _, kC, hm, T, iC, tI, fnG_of FF S (fun vs H Q E h => ?_) fun cdv A outer s H vs Q E hr hgd h => ?_, b⟩
  · obtain ⟨a, v, rfl, _⟩ := h
    rfl
  · obtain ⟨a, v, rfl, okv, ea, q⟩ := h
    refine ⟨_, hb fI cdv A outer s H E, ?_⟩
    refine ⟨.ref a, rfl, htm _ _ _ v rfl okv fun x => ⟨a, C, [.str x], rfl, Nat.le_of_ble_eq_true rfl, T, ea, ?_⟩⟩
    exact ⟨v, rfl, .ref a, rfl, a, C, rfl, T, nf, .inl ⟨ea, fun dx n1 n2 => q dx n1 n2⟩⟩
end
section
variable {X : Cx} {x : Str} {e : Expr} {es : List Expr} {ta : TA} {p pos : Pos} {C fI : Addr} {k : Nat} {fd : FuncData} {ps : List Str} {f : Str} {num : Bool}
theorem pmk_exi (T : OexC X.K C) (iC : PySem.W.findIn X.K (.ref C) "__init__" = some (some (.ref fI))) (tI : PySem.W.typeIn X.K (.ref fI) = some (.type "function"))
    (F1 : FnG X.prog X.w X.K X.mg X.base k fI fd ps (exiSp X.K C f num)) (hr : Room (k + 1) X.A) (hgd : X.A.guards = some []) (hb : Binds X.K fd ps []) (hg : Gl X x) (hm : X.mg x = some (.ref C)) (ha : PA X (e :: es) ta)
    (hdb : (x == ("__debug__" : Str)) = false := by decide) (he : starEach (e :: es) X.env = (false, eval e X.env) :: starEach es X.env := by rfl) (hpl : (backTo pos (starEach es X.env)).any (·.1) = false := by rfl) :
    PMk X (.Call (.Name x p) (e :: es) [] pos) (fun σ H Q => ta σ H fun vs H1 => ∃ v, vs = [v] ∧ okN num v ∧ ∀ d, H1 d = none → Q (.ref C) (some d) (upd H1 d (.xd [(f, v)]))) := by
  intro pins s σ H Q I h
  obtain ⟨nm, q, N, bs, bm, sn, sub, ab, col, dd, k0, k1, k2, k3, k5, hC, hbm⟩ := T.cls
  refine wpAny_Call_Name_kw (ld_glob I hg hm ?_ hdb)
  refine PySem.W.callWith_K (h₀ := X.base) I.ok.mod.kin T.kC (thn (ha.run pos pins s σ H _ I h) fun us s1 ⟨vs, H1, I1, r1, v, ev, okv, q1⟩ => ⟨I1.kIn, ?_⟩) he hpl
  subst ev
  show wpAny _ _ (call (.ref C) us) _ _ _
  obtain ⟨hp, g, dr, tk, os⟩ := s1
  have hsz : hp.objs.size ≤ hp.objs.size + 1 := Nat.le_succ _
  have hn : H1 (hp.objs.size + 1) = none := I1.hok.fresh hsz
  have kk : ∀ b o, hp.get? b = some o → ((hp.push (PySem.W.kdv_tup us)).push (PySem.HandSPX.excO C hp.objs.size)).get? b = some o := fun b o e => Heap.get?_push_of_some _ (Heap.get?_push_of_some _ e)
  have hget : ((hp.push (PySem.W.kdv_tup us)).push (PySem.HandSPX.excO C hp.objs.size)).get? (hp.objs.size + 1) = some (PySem.HandSPX.excO C hp.objs.size) := by heap_get
  have I2 : Inv X pins σ (upd H1 (hp.objs.size + 1) (exo (hp.objs.size + 1) C none)) ⟨(hp.push (PySem.W.kdv_tup us)).push (PySem.HandSPX.excO C hp.objs.size), g, dr, tk, os⟩ :=
    I1.laid (t' := tk) (a := hp.objs.size + 1) (o := exo (hp.objs.size + 1) C none) (h' := (hp.push (PySem.W.kdv_tup us)).push (PySem.HandSPX.excO C hp.objs.size)) kk hsz (exo_ok hget)
  have hq : exiSp X.K C f num [.ref (hp.objs.size + 1), v] (upd H1 (hp.objs.size + 1) (exo (hp.objs.size + 1) C none))
      (fun u H2 => u = .non ∧ ∃ dx, H1 dx = none ∧ dx ≠ hp.objs.size + 1 ∧ H2 = upd (upd (upd H1 (hp.objs.size + 1) (exo (hp.objs.size + 1) C none)) dx (exd dx [(f, v)])) (hp.objs.size + 1) (exo (hp.objs.size + 1) C (some dx))) (fun _ _ _ => False) :=
    ⟨_, v, rfl, okv, upd_same, fun dx n1 n2 => ⟨rfl, dx, by rw [upd_ne n2] at n1; exact n1, n2, rfl⟩⟩
  have r2 : Vals [V.ref (hp.objs.size + 1), v] (Value.ref (hp.objs.size + 1) :: us) := .cons rfl r1
  have hl : (Value.ref (hp.objs.size + 1) :: us).length = ps.length := by
    have e := r2.length
    rw [F1.len _ _ _ _ hq] at e
    exact e.symm
  have hus : us.length ≤ sizeLine := by
    rw [← Paired.length r1, sizeLine_eq]
    exact Nat.le_of_ble_eq_true rfl
  have bt := hb ⟨(hp.push (PySem.W.kdv_tup us)).push (PySem.HandSPX.excO C hp.objs.size), g, dr, tk, os⟩ (Value.ref (hp.objs.size + 1) :: us) I2.kIn (by rw [List.append_nil]; exact hl)
  rw [List.append_nil] at bt
  refine wpAny_call (PySem.HandSPX.call_own F.excBase_ValueError (fun Y => PySem.HandSPX.refsVE_contains Y bm hbm) (I1.kIn _ _ hC) (PySem.W.looks_findIn I1.kIn iC) (fun self => PySem.W.bind_fn I1.kIn self tI) hus
    (codeAny_mono (F1.run _ X.stack _ _ ⟨Value.ref (hp.objs.size + 1) :: us, []⟩ (Value.ref (hp.objs.size + 1) :: us) _ _ (fun _ _ _ => False) (hr.make C us []) (make_guards.trans hgd) (I2.env0.make C us []) bt r2 hq) fun r s2 hq2 => ?_))
  match r, hq2 with
  | .error er, ⟨_, _, _, _, _, _, _, _, _, _, _, _, z⟩ => exact z.elim
  | .ok (.ret u), ⟨w, H2, os2, bare2, un2, hok2, rv, ev, dx, n1, n2, eH⟩ =>
    subst ev
    subst eH
    obtain ⟨h2, g2, d2, t2, os3⟩ := s2
    refine ⟨rv, mk_end (d := dx) (fs := [(f, v)]) (raises_own T.exC T.tyC) I1 hsz kk un2 hok2 os2 bare2 upd_same (by rw [upd_ne n2, upd_same]) n1 ?_⟩
    have eq : upd (L2.del (upd (upd (upd H1 (hp.objs.size + 1) (exo (hp.objs.size + 1) C none)) dx (exd dx [(f, v)])) (hp.objs.size + 1) (exo (hp.objs.size + 1) C (some dx))) (hp.objs.size + 1)) dx (.xd [(f, v)]) = upd H1 dx (.xd [(f, v)]) := by
      funext b
      by_cases h1 : b = dx
      · subst h1; rw [upd_same, upd_same]
      · rw [upd_ne h1, upd_ne h1]
        by_cases h2 : b = hp.objs.size + 1
        · subst h2; rw [del_same]; exact hn.symm
        · rw [del_ne h2, upd_ne h2, upd_ne h1, upd_ne h2]
    rw [eq]
    exact q1 dx n1
end
section
variable {X : Cx} {Wv : WX} {n f : Str} {num : Bool} {k : Nat} {p pos pos2 : Pos} {e : Expr} {es : List Expr} {t : DTA}
def dRaiseF (n f : Str) (num : Bool) (t : DTA) : DTS := fun _ env w => t env w fun xs w1 => ∃ d, xs = [d] ∧ okND num d ∧ w1.e env n (some [(f, d)]) w1.m w1.n
theorem ds_raiseF (F : DExi X.prog X.w X.K X.mg X.base k n f num) (hc : X.calm = true) (hr : Room (k + 1) X.A) (hgd : X.A.guards = some []) (tk : Takes X Wv) (ha : DA X Wv (e :: es) t) (hg : Gl X n := by rfl) (hdb : (n == ("__debug__" : Str)) = false := by decide)
    (he : starEach (e :: es) X.env = (false, eval e X.env) :: starEach es X.env := by rfl) (hpl : (backTo pos (starEach es X.env)).any (·.1) = false := by rfl) :
    DS X Wv (.Raise (some (.Call (.Name n p) (e :: es) [] pos)) none pos2) (dRaiseF n f num t) := by
  obtain ⟨C, fI, fd, ps, kC, hm, T, iC, tI, FF, hb⟩ := F.ex
  refine ⟨PS_imp (ps_raise hc tk (pmk_exi T iC tI FF hr hgd hb hg hm ha.pa hdb he hpl)) fun Dv σ H ⟨c, g, env, w, D, B, q, E⟩ => bindA B q fun vs H1 g1 w1 xs l1 B1 r1 ⟨d, ex, okd, q1⟩ => ?_⟩
  subst ex
  obtain ⟨v, rfl, rv⟩ := r1.one
  refine ⟨v, rfl, fun hn => ?_, fun dx hd => ?_⟩
  · obtain ⟨i, rfl, hi⟩ := okd hn
    cases rv
    exact ⟨i, rfl, hi⟩
  · have R2 := B1.R.alloc (o := .xd [(f, v)]) hd
    have l2 := Gh.add_le (o := .xd [(f, v)]) (B1.R.noG hd)
    exact B1.X env σ _ (.ref C) (some dx) _ l2 (B1.E.le l2) ⟨_, w1, n, some [(f, d)], ⟨C, kC, rfl⟩, .rfl, R2, by rw [← B1.R.ex]; exact q1, [(f, v)], [(f, d)], by simp, Gh.add_at, .cons (rv.le l2) .nil, rfl⟩
end
/-! ### what was kept is read -/
structure ExfX (K : PySem.W.Frag) (n f : Str) : Prop where
  ex : ∃ C, ClsAt K n C ∧ XfC K C ∧ PySem.W.findIn K (.ref C) f = some none
def dExf (n f : Str) (t : DTE) : DTE := fun env w Q => t env w fun x w1 => match x with
  | .exc m fs => m = n ∧ ∃ d, fs.lookup f = some d ∧ Q d w1
  | _ => False
section
variable {X : Cx} {Wv : WX} {n f : Str} {e : Expr} {t : DTE} {pos : Pos}
def tXfT (K : PySem.W.Frag) (f : Str) (te : TE) : TE := fun σ H Q => te σ H fun x H1 => ∃ (a C dd : Addr) (fs : List (Str × V)) (v : V), x = .ref a ∧ XfC K C ∧ PySem.W.findIn K (.ref C) f = some none ∧ H1 a = some (ExcO a (.ref C) (some dd)) ∧ H1 dd = some (.xd fs) ∧ fs.lookup f = some v ∧ Q v H1
theorem pe_xfT {te : TE} (he : PE X e te) (hb : attributeBase e f X.env (eval e X.env) = eval e X.env) : PE X (.Attribute e f pos) (tXfT X.K f te) := by
  refine ⟨fun pins s σ H Q I h => ?_⟩
  refine attr_of hb (thn (he.run pins s σ H _ I h) fun u s1 ⟨x, H1, I1, rx, a, C, dd, fs, v, ex, T, hno, ea, ed, l, q⟩ => ?_)
  subst ex
  obtain rfl : u = Value.ref a := rx
  obtain ⟨oe, vs, hget, h1, h2, hv⟩ := (I1.hok a _ ea).1
  have hx : ObjOk X.prog X.w H1 s1.heap dd (.xd fs) := I1.hok dd _ ed
  obtain ⟨mA, hns, hr⟩ := hx
  obtain ⟨od, ho, hl⟩ := lookIn_ns hns
  obtain ⟨u, hu, ru⟩ := RelO.some_of (v := v) (o := mA f) (by rw [← l]; exact hr f)
  have J : PySem.W.InstAt s1.heap a oe C (some od) := ⟨hget, h1, by unfold PySem.W.notCls; rw [hv] <;> rfl, by rw [h2]; exact ho⟩
  exact HandSPX.exc_get I1.kIn J T.ga T.gg T.exC (PySem.W.findObj_own T.hdC hno rfl (by rw [hl, hu])) (handed_of ru) ⟨v, H1, I1.tok _, ru, q⟩
/-- e.f of what was caught -/
theorem de_exf (F : ExfX X.K n f) (he : DE X Wv e t) (hb : attributeBase e f X.env (eval e X.env) = eval e X.env := by rfl) : DE X Wv (.Attribute e f pos) (dExf n f t) :=
  ⟨PE_imp (pe_xfT he.pe hb) fun σ H Qv ⟨c, g, env, w, Q, B, q, k⟩ => bindE B q fun v H1 g1 w1 x l1 B1 r1 q1 => by
    obtain ⟨C, hC, T, hno⟩ := F.ex
    cases r1 with
    | @exc a D m od xs ds kD s fx rf =>
      obtain ⟨rfl, d, e1, q2⟩ := q1
      cases hC.eq kD
      obtain ⟨u, e2, ru⟩ := rf.get e1
      cases od with
      | none =>
        cases (show xs = [] from fx)
        cases e2
      | some dx =>
        have hx : H1 dx = some (.xd xs) := by
          rcases B1.R.imm dx _ fx.2 with ⟨_, q⟩ | ⟨o, q, _⟩
          · exact q
          · obtain ⟨u', z⟩ := B1.R.lck dx o q
            rw [fx.2] at z
            cases z
        exact ⟨a, _, dx, xs, u, rfl, T, hno, B1.R.exc s, hx, e2, k _ _ ⟨g1, w1, d, l1, B1.R, ru, q2⟩⟩
    | _ => exact False.elim q1⟩
end
/-! the facts, one by one -/
theorem ExfX.of {K : PySem.W.Frag} {n f : Str} {C : Addr} (k : ClsAt K n C) (a : PySem.W.findIn K (.ref C) "__getattribute__" = some (some (.builtin "BaseException.__getattribute__"))) (b : PySem.W.findIn K (.ref C) "__getattr__" = some none)
    (c : PySem.W.subIn K (.ref C) (.type "BaseException") = some true) (d : PySem.W.hasDictIn K C = true) (e : PySem.W.findIn K (.ref C) f = some none) : ExfX K n f := ⟨⟨C, k, ⟨a, b, c, d⟩, e⟩⟩
/-! ### f-strings -/
def dFmt (t : DTE) : DTE := fun env w Q => t env w fun x w1 => match x with
  | .str y => y.length ≤ sizeLine ∧ Q (.str y) w1
  | .int i => i.natAbs.log2 < 1920 ∧ Q (.str (toString i)) w1
  | _ => False
section
variable {X : Cx} {Wv : WX} {e v1 v2 : Expr} {t : DTE} {pos : Pos} {rest : List Expr}
theorem de_fmt (he : DE X Wv e t) : DE X Wv (.FormattedValue e (-1) none pos) (dFmt t) :=
  ⟨PE_imp (pe_fmt he.pe) fun σ H Qv ⟨c, g, env, w, Q, B, q, k⟩ => bindE B q fun v H1 g1 w1 x l1 B1 r1 q1 => by
    cases r1 with
    | str y => exact .inl ⟨y, rfl, q1.1, k _ _ ⟨g1, w1, _, l1, B1.R, .str _, q1.2⟩⟩
    | int i => exact .inr ⟨i, rfl, q1.1, k _ _ ⟨g1, w1, _, l1, B1.R, .str _, q1.2⟩⟩
    | _ => exact False.elim q1⟩
/-- the parts, one behind the other -/
inductive DJ (X : Cx) (Wv : WX) : List Expr → List DTE → Prop
  | nil : DJ X Wv [] []
  | cons {e : Expr} {t : DTE} {es : List Expr} {ts : List DTE} : DE X Wv e t → DJ X Wv es ts → DJ X Wv (e :: es) (t :: ts)
def dJs : List DTE → Str → DTE
  | [], acc => fun _ w Q => Q (.str acc) w
  | t :: ts, acc => fun env w Q => t env w fun x w1 => match x with
    | .str y => (acc ++ y).length ≤ sizeLine ∧ dJs ts (acc ++ y) env w1 Q
    | _ => False
theorem DJ.pj {es : List Expr} {ts : List DTE} (h : DJ X Wv es ts) : PJ X es (ts.map (liftE X.K Wv)) := by
  induction h with
  | nil => exact .nil
  | cons a _ ih => exact .cons a.pe ih
theorem dJs_lift {K : PySem.W.Frag} {σ : St} : ∀ {ts : List DTE} {acc : Str} {H : Hp} {Qv : VK}, liftE K Wv (dJs ts acc) σ H Qv → tJs (ts.map (liftE K Wv)) acc σ H fun out H1 => Qv (.str out) H1
  | [], acc, H, Qv, ⟨c, g, env, w, Q, B, q, k⟩ => k _ _ ⟨g, w, _, .rfl, B.R, .str _, q⟩
  | t :: ts, acc, H, Qv, ⟨c, g, env, w, Q, B, q, k⟩ => bindE B q fun v H1 g1 w1 x l1 B1 r1 q1 => by
    cases r1 with
    | str y => exact ⟨y, rfl, q1.1, dJs_lift ⟨c, g1, env, w1, Q, B1, q1.2, fun v' H' z => k v' H' (z.up l1)⟩⟩
    | _ => exact False.elim q1
def dJoined (ts : List DTE) : DTE := dJs ts Str.empty
theorem de_joined {ts : List DTE} (h : DJ X Wv (v1 :: v2 :: rest) ts) : DE X Wv (.JoinedStr (v1 :: v2 :: rest) pos) (dJoined ts) :=
  ⟨PE_imp (pe_joined h.pj) fun σ H Qv h => dJs_lift h⟩
theorem de_joined1 (h : DE X Wv e t) : DE X Wv (.JoinedStr [e] pos) t := ⟨pe_joined1 h.pe⟩
end
end DL

/-! DLzu: a lambda of one parameter, made and called. -/
namespace DL
open PySem PySem.Spec PyProof.Rows L2 LamX NdefX
/-- the words of a lambda that is made in X -/
abbrev lamF (X : Cx) (params : Arguments) (scope : Scope) (c1 : Addr) : NF := ⟨"<lambda>", X.env.qual ++ "<lambda>", params, [], scope, cloFrom X.env.cells scope.names [], c1⟩
/-- at f: a lambda -/
def LamO (f : Addr) (F : NF) (body : Expr) : HO := .ext fun h => ∃ pm ctv, h.get? f = some (PySem.W.kla_obj "<lambda>" F.qual F.params body F.scope F.cl pm F.c ctv)
theorem lamO_ok {P : Program} {w : World} {H : Hp} {h : Heap} {f : Addr} {F : NF} {body : Expr} {pm ctv : Value} (e : h.get? f = some (PySem.W.kla_obj "<lambda>" F.qual F.params body F.scope F.cl pm F.c ctv)) : ObjOk P w H h f (LamO f F body) :=
  ⟨⟨pm, ctv, e⟩, ⟨_, e⟩, fun _ _ ⟨a, b, q⟩ k => ⟨a, b, k _ q⟩⟩
theorem Rel.ext {K : PySem.W.Frag} {c : Ck} {g : Gh} {w : W} {H : Hp} (R : Rel K c g w H) {a : Addr} {p : Heap → Prop} (h : g.G a = some (.ext p)) : H a = some (.ext p) := by
  rcases R.imm a _ h with ⟨_, q⟩ | ⟨o, q, _⟩
  · exact q
  · obtain ⟨u, z⟩ := R.lck a o q
    rw [h] at z
    cases z
theorem W.put_self {w : W} {a : Addr} {o : MO} (h : w.m a = some o) : w.put a o = w := by
  have e : updM w.m a o = w.m := by
    funext b
    unfold updM
    split
    · rename_i z; rw [z, h]
    · rfl
  show ({ w with m := updM w.m a o } : W) = w
  rw [e]
theorem upd_swap {H : Hp} {a b : Addr} {o u : HO} (h : a ≠ b) : upd (upd H a o) b u = upd (upd H b u) a o := by
  funext x
  by_cases h1 : x = b
  · subst h1; rw [upd_same, upd_ne (Ne.symm h), upd_same]
  · rw [upd_ne h1]
    by_cases h2 : x = a
    · subst h2; rw [upd_same, upd_same]
    · rw [upd_ne h2, upd_ne h2, upd_ne h1]
section
variable {X : Cx} {pins : List (Addr × Obj)} {σ : St} {H : Hp} {s : Shared} {c : Ck} {g : Gh} {w : W}
theorem lam_mk {P c0 : Addr} {params : Arguments} {body : Expr} {scope : Scope} {pos : Pos} {E : Value → Shared → Prop} {Q : Value → Shared → Prop} (I : Inv X pins σ H s) (R : Rel X.K c g w H) (hm : w.m P = some (.tab (X.env.qual ++ "<lambda>"))) (TB : TabB X.base X.mg c0 P)
    (hcode : X.env.code = .ref c0) (hdef : defaultsOf params X.env = ([], [])) (hfree : ∀ y ∈ scope.names, y.2 = .free → ∃ c, X.env.cells.lookup y.1 = some c)
    (h : ∀ f c1 H1 g1 s1, g.le g1 → Inv X pins σ H1 s1 → Rel X.K c g1 w H1 → g1.G f = some (LamO f (lamF X params scope c1) body) → g1.G c1 = some (CodeO c1 (X.env.qual ++ "<lambda>")) → Q (.ref f) s1) :
    wpAny (model X.prog X.w) X.A (eval (.Lambda params body scope pos) X.env) Q E s := by
  obtain ⟨hG, hF, hP, o, h0, r⟩ := R.mu P _ hm
  cases r with
  | @tab _ ps ht ha =>
    refine PySem.W.kla_eval hdef ?_
    have bP : s.heap.BuiltinsAt X.mg P := TB.bm.keeps I.bk
    have hP1 : s.heap.get? P = some { cls := .none, data := .fields ps } := I.hok P _ h0
    cases hc : codeAmong pos ps.toList with
    | none =>
      refine PySem.W.kla_makeFunction (mg := X.mg) (c := c0) (P := P) (ps := ps) (closure_ok hfree) I.ok.glob (I.mod.glob.keeps I.bk) hcode (TB.code.keeps I.bk) hP1 ht hc TB.gP bP fun c1 ctv h1 tk hx hge hlt hrec htb => ?_
      obtain ⟨c2, oc, vs, t, e2, hoc, hd, hv⟩ := hrec
      cases e2
      have nC : H c1 = none := I.hok.fresh hge
      have nPc : P ≠ c1 := ne_of_none h0 nC
      have I0 := inv_table (t' := tk) (more := #[rawInt pos.line, rawInt pos.col, .ref c1]) (h' := h1) I h0 hx htb hge ⟨oc, vs, t, hoc, hd, hv⟩
      have R1 := R.alloc (o := CodeO c1 (X.env.qual ++ "<lambda>")) nC
      have l1 := Gh.add_le (o := CodeO c1 (X.env.qual ++ "<lambda>")) (R.noG nC)
      have eL : (ps ++ #[rawInt pos.line, rawInt pos.col, .ref c1]).toList = ps.toList ++ [rawInt pos.line, rawInt pos.col, .ref c1] := by simp
      have rt : RepM X.K (g.add c1 (CodeO c1 (X.env.qual ++ "<lambda>"))) (.tab (X.env.qual ++ "<lambda>")) (.tbl (ps ++ #[rawInt pos.line, rawInt pos.col, .ref c1])) := by
        refine .tab (by rw [eL]; exact PySem.TriplesOk_snoc _ _ _ _ ht) fun p1 cv hcv => ?_
        rw [eL] at hcv
        rcases among_app _ ht hcv with z | z
        · obtain ⟨c3, e1, e2⟩ := ha p1 cv z
          exact ⟨c3, e1, l1.G _ _ e2⟩
        · exact ⟨c1, z, Gh.add_at⟩
      have R2 := R1.write hm rt
      rw [W.put_self hm, upd_swap (Ne.symm nPc)] at R2
      have nF := I0.hok.fresh (Nat.le_refl _)
      have I1 := I0.laid (t' := tk) (a := h1.objs.size) (o := LamO h1.objs.size (lamF X params scope c1) body) (h' := h1.push (PySem.W.kla_obj "<lambda>" (X.env.qual ++ "<lambda>") params body scope (cloFrom X.env.cells scope.names []) ((X.mg "__name__").getD .none) c1 ctv))
        (fun b o e => Heap.get?_push_of_some _ e) (Nat.le_refl _) (lamO_ok (Heap.get?_push_size _ rfl))
      have l2 := Gh.add_le (o := LamO h1.objs.size (lamF X params scope c1) body) (R2.noG nF)
      exact h h1.objs.size c1 _ _ _ (l1.trans l2) I1 (R2.alloc (o := LamO h1.objs.size (lamF X params scope c1) body) nF) Gh.add_at (l2.G _ _ Gh.add_at)
    | some cv =>
      obtain ⟨c1, e, hco⟩ := ha pos cv hc
      subst e
      refine PySem.W.kla_makeFunctionHit (mg := X.mg) (c := c0) (P := P) (ps := ps) (closure_ok hfree) I.ok.glob (I.mod.glob.keeps I.bk) hcode (TB.code.keeps I.bk) hP1 ht hc bP fun ctv h1 tk hx hsz => ?_
      have I0 : Inv X pins σ H { s with heap := h1, toks := tk } := I.kept hx
      have nF := I0.hok.fresh (Nat.le_refl _)
      have I1 := I0.laid (t' := tk) (a := h1.objs.size) (o := LamO h1.objs.size (lamF X params scope c1) body) (h' := h1.push (PySem.W.kla_obj "<lambda>" (X.env.qual ++ "<lambda>") params body scope (cloFrom X.env.cells scope.names []) ((X.mg "__name__").getD .none) c1 ctv))
        (fun b o e => Heap.get?_push_of_some _ e) (Nat.le_refl _) (lamO_ok (Heap.get?_push_size _ rfl))
      have l2 := Gh.add_le (o := LamO h1.objs.size (lamF X params scope c1) body) (R.noG nF)
      exact h h1.objs.size c1 _ _ _ l2 I1 (R.alloc (o := LamO h1.objs.size (lamF X params scope c1) body) nF) Gh.add_at (l2.G _ _ hco)
/-- the slots of the lambda's own names: the parameter, then what it captured -/
def lamE (d : D) (js : List Nat) (env : En) : En := some d :: js.map fun j => (env[j]?).join
theorem lam_run {A : Around} {f c1 : Addr} {params : Arguments} {body : Expr} {scope : Scope} {a : Str} {fr : List Str} {js : List Nat} {k : Nat} {t : DTE} {v : V} {u : Value} {d : D} {env : En} {Qd : DK}
    (I : Inv X pins σ H s) (R : Rel X.K c g w H) (E : EnR X.K g env σ) (hf : g.G f = some (LamO f (lamF X params scope c1) body)) (hc : g.G c1 = some (CodeO c1 (X.env.qual ++ "<lambda>")))
    (S : NScope (a :: fr) [a] fr scope) (cp : Caps X (cloFrom X.env.cells scope.names []) fr js) (e0 : Env0 X.prog X.w X.K X.mg X.base A X.stack s H) (hr : Room (k + 1) A) (hgd : A.guards = some [])
    (hbind : ∀ (q : Str) (cl : List (Str × Addr)) (pm cv ctv u : Value), bindArgs (PySem.W.kla_fn "<lambda>" q params body scope cl pm cv ctv) ⟨[u], []⟩ = pure [(a, u)])
    (hbody : ∀ (A : Around) (outer : List Env) (s : Shared) (H : Hp), Room k (A.deeper (envF (lamF X params scope c1) f s.heap.objs.size)) → A.guards = some [] →
      DE (ncx (L2.CX X.prog X.w) X.prog X.w X.K X.mg X.base (a :: fr) (lamF X params scope c1) f A outer s H (fun _ _ _ => False)) W0 body t)
    (rv : RelV v u) (rd : Rep X.K g v d) (ht : t (lamE d js env) w.mute Qd) :
    wpAny (model X.prog X.w) A (call (.ref f) [u]) (EP X pins σ fun v1 H1 => PQ X.K c.mute g Qd v1 H1) (fun _ _ => False) s := by
  obtain ⟨pm, ctv, of1⟩ := (show ObjOk X.prog X.w H s.heap f (.ext _) from I.hok f _ (R.ext hf)).1
  have hcH : H c1 = some (CodeO c1 (X.env.qual ++ "<lambda>")) := R.ext hc
  have jl : js.length = fr.length := by
    have q := congrArg List.length cp.at_
    rw [List.length_map, List.length_map] at q
    exact q
  have rc : codeAny (model X.prog X.w) A (.call (.ref f) ⟨[u], []⟩) (CR (L2.CX X.prog X.w) X.stack X.prog X.w H s (fun v1 H1 => PQ X.K c.mute g Qd v1 H1) (fun _ _ _ => False)) s := by
    refine PySem.W.kla_callFunE hr.depth of1 rfl S.co S.gen rfl (codeO_at I.hok hcH) ?_
    rw [hbind]
    refine wpAny_pure (wpAny_newFunctionEnv S.nocell (fun y hy => ?_) (fun h1 hns hsb => ⟨I.nolimit.fresh _ hsb, ?_⟩) S.kind)
    · have e : y = (a, u) := by simpa using hy
      rw [e]
      exact S.par a (List.mem_cons_self ..)
    show codeAny _ _ (.expr body (envF (lamF X params scope c1) f s.heap.objs.size)) _ _
    have kp : ∀ b o, s.heap.get? b = some o → h1.get? b = some o := fun b o e => hsb.extBut b o (Nat.ne_of_lt (Heap.lt_size e)) (Heap.get?_push_of_some _ e)
    have J : Inv (ncx (L2.CX X.prog X.w) X.prog X.w X.K X.mg X.base (a :: fr) (lamF X params scope c1) f A X.stack s H (fun _ _ _ => False)) [] (startF (a :: fr) [v] (js.map (slotAt σ))) H { s with heap := h1, toks := s.toks + ([(a, u)] : List (Str × Value)).length } :=
      inv_startN (us := [u]) S hr.hd e0 rfl (.cons rv .nil) (cells_of I cp) hns kp
    have E1 : EnR X.K g (lamE d js env) (startF (a :: fr) [v] (js.map (slotAt σ))) := by
      refine ⟨?_, fun i x q => ?_⟩
      · unfold lamE startF
        simp [jl]
      · unfold lamE at q
        unfold startF
        cases i with
        | zero =>
          cases q
          exact ⟨v, rfl, rd⟩
        | succ i =>
          have q : (js.map fun j => (env[j]?).join)[i]? = some (some x) := q
          rw [List.getElem?_map] at q
          cases ej : js[i]? with
          | none => rw [ej] at q; cases q
          | some j =>
            rw [ej] at q
            have q : (env[j]?).join = some x := Option.some.inj q
            have q2 : env[j]? = some (some x) := by
              cases z : env[j]? with
              | none => rw [z] at q; cases q
              | some o => rw [z] at q; exact congrArg some q
            obtain ⟨v2, h2, r2⟩ := E.at_ j x q2
            refine ⟨v2, ?_, r2⟩
            show ((js.map (slotAt σ)) ++ _)[i]? = some (some v2)
            rw [List.getElem?_append_left (by rw [List.length_map]; exact (List.getElem?_eq_some_iff.mp ej).1), List.getElem?_map, ej]
            show some (slotAt σ j) = _
            rw [slotAt_of h2]
    refine PySem.W.kla_codeExpr (wpAny_mono ((hbody A X.stack s H (hr.deeper _) hgd).pe.run [] _ _ H (fun v1 H1 => PQ X.K c.mute g Qd v1 H1) J ⟨c.mute, g, lamE d js env, w.mute, Qd, ⟨R.mute, E1, fun _ _ _ _ _ _ _ _ ⟨_, _, _, _, _, _, _, z, _⟩ => z.elim⟩, ht, fun _ _ z => z⟩) (fun v1 s1 hq => ?_) fun e s1 hq => hq)
    obtain ⟨w1, H1, J1, rv1, q⟩ := hq
    exact ⟨w1, H1, J1.os, J1.bare, J1.base, J1.hok, rv1, q⟩
  refine wpAny_call (codeAny_mono rc fun r s1 hq => ?_)
  match r, hq with
  | .error e, ⟨_, _, _, _, _, _, _, _, _, _, _, _, z⟩ => exact z.elim
  | .ok (.ret u1), hq => exact I.after hq
end
end DL

/-! DLzv: sorted(xs, key=lambda ..). -/
namespace DL
open PySem PySem.Spec PyProof.Rows L2 LamX NdefX
section
variable {X : Cx} {pins : List (Addr × Obj)} {σ : St} {H : Hp} {s : Shared}
theorem repin {q : Addr} {o o1 : Obj} {h1 : Heap} {tk : Nat} (I : Inv X ((q, o) :: pins) σ H s) (k : ∀ b u, b ≠ q → s.heap.get? b = some u → h1.get? b = some u) (ho : h1.get? q = some o1) (hc : ∀ v, o1.data ≠ .cell v) (h0 : X.s_0.heap.objs.size ≤ q)
    (np : ∀ p ∈ X.pn ++ pins, p.1 ≠ q) : Inv X ((q, o1) :: pins) σ H { s with heap := h1, toks := tk } := by
  obtain ⟨e, n, nL, nf, nd⟩ := I.pin (q, o) (List.mem_append_right _ List.mem_cons_self)
  have nc : ∀ x c, X.env.cells.lookup x = some c → c ≠ q := fun x c e1 z => by
    obtain ⟨v, o2, ho2, hd2⟩ := I.cell x c e1
    rw [z] at ho2
    rw [show s.heap.get? q = some o from e] at ho2
    cases ho2
    exact nd _ hd2
  have I1 := (ClX.unpin I).turned (t' := tk) (h' := h1) k n nL (.inr h0) nc np
  refine I1.pins_of fun p hp => ?_
  rcases List.mem_cons.mp hp with rfl | hp
  · exact ⟨ho, n, nL, nf, hc⟩
  · exact I1.pin p (List.mem_append_right _ hp)
theorem turned2 {a q : Addr} {o u : Obj} {h1 : Heap} {tk : Nat} (I : Inv X ((q, o) :: (a, u) :: pins) σ H s) (k : ∀ b x, b ≠ q → b ≠ a → s.heap.get? b = some x → h1.get? b = some x) (q0 : X.s_0.heap.objs.size ≤ q) (a0 : X.s_0.heap.objs.size ≤ a)
    (nq : ∀ p ∈ X.pn ++ pins, p.1 ≠ q) (na : ∀ p ∈ X.pn ++ pins, p.1 ≠ a) : Inv X pins σ H { s with heap := h1, toks := tk } := by
  obtain ⟨eq, nQ, qL, qf, qd⟩ := I.pin (q, o) (List.mem_append_right _ List.mem_cons_self)
  obtain ⟨ea, nA, aL, af, ad⟩ := I.pin (a, u) (List.mem_append_right _ (List.mem_cons_of_mem _ List.mem_cons_self))
  have nc : ∀ {b : Addr} {v : Obj}, s.heap.get? b = some v → (∀ z, v.data ≠ .cell z) → ∀ x c, X.env.cells.lookup x = some c → c ≠ b := fun {b v} e nd x c e1 z => by
    obtain ⟨v1, o2, ho2, hd2⟩ := I.cell x c e1
    rw [z, e] at ho2
    cases ho2
    exact nd _ hd2
  have I0 : Inv X pins σ H s := ClX.unpin (ClX.unpin I)
  have mem : ∀ {b : Addr}, b ∈ [q, a] → b = q ∨ b = a := fun {b} hb => by simpa using hb
  have kk : ∀ b x, b ∉ [q, a] → s.heap.get? b = some x → h1.get? b = some x := fun b x hb e => k b x (fun z => hb (by simp [z])) (fun z => hb (by simp [z])) e
  refine I0.step (g' := s.gens) (d' := s.drawn) (ch := [q, a]) (fun b hb => ?_) (fun b o _ _ hc e _ => kk b o hc e) (fun b o _ _ hc e _ => ⟨o.slots, kk b o hc e⟩) (fun _ _ _ _ n => n) (fun b o hc e => ⟨o, kk b o hc e⟩) (fun _ _ e => e) (fun _ _ _ e => e)
    (fun b ps e => ⟨#[], by rw [e]; simp⟩) (fun m hm => ?_) (fun b v e => ?_) I0.bare
  · rcases mem hb with rfl | rfl
    · exact ⟨.inr q0, qL, nc eq qd, nq⟩
    · exact ⟨.inr a0, aL, nc ea ad, na⟩
  · obtain ⟨o, es, ep, ho, r⟩ := hm
    exact ⟨o, es, ep, k _ o (Ne.symm qL) (Ne.symm aL) ho, r⟩
  · have un : ∀ {x : Addr}, H x = none → ∀ b v, H b = some v → b ≠ x := fun {x} n b v e z => by rw [z, n] at e; cases e
    refine (I0.hok b v e).stay (fun c v2 hc z => k c v2 ?_ ?_ z) (fun _ z => z) fun _ _ z => z
    · rcases hc with z | z
      · rw [z]; exact un nQ b v e
      · exact un nQ c _ z
    · rcases hc with z | z
      · rw [z]; exact un nA b v e
      · exact un nA c _ z
/-- an object that stands there is tracked from now on -/
theorem inv_adoptG {a : Addr} {o : HO} {oe : Obj} (I : Inv X pins σ H s) (ha : s.heap.get? a = some oe) (hc : ∀ v, oe.data ≠ .cell v) (hok : ObjOk X.prog X.w (upd H a o) s.heap a o) (na : H a = none) (n0 : X.s_0.heap.objs.size ≤ a)
    (nL : a ≠ X.env.locals) (np : ∀ p ∈ X.pn ++ pins, p.1 ≠ a) : Inv X pins σ (upd H a o) s := by
  have n00 : X.s_0.heap.get? a = none := Heap.get?_none_of_le n0
  have ne : ∀ {b : Addr} {u : HO}, H b = some u → b ≠ a := fun {b u} e => ne_of_none e na
  have n1 : ∀ {b : Addr} {o : Obj}, X.s_0.heap.get? b = some o → b ≠ a := fun {b o} e z => by rw [z, n00] at e; cases e
  have nc : ∀ x c, X.env.cells.lookup x = some c → c ≠ a := fun x c e z => by
    obtain ⟨v, o2, ho, hv⟩ := I.cell x c e
    rw [z, ha] at ho
    cases ho
    exact hc _ hv
  refine ⟨I.ok, I.os, I.bare, ⟨I.base.keep, I.base.slot, fun b o e n hb => ?_, I.base.there, fun b xs e => ?_, fun b o u e => ?_, fun b ps e => ?_⟩, I.loc, I.cell, ?_, fun x c e => ?_, fun p hp => ?_, fun b u e => ?_, I.len⟩
  · rw [upd_ne (n1 e)]; exact I.base.free b o e n hb
  · have q := I.base.tups b xs e
    rw [upd_ne (ne q)]; exact q
  · have q := I.base.frzs b o u e
    rw [upd_ne (ne q)]; exact q
  · obtain ⟨m, q⟩ := I.base.tbls b ps e
    exact ⟨m, by rw [upd_ne (ne q)]; exact q⟩
  · rw [upd_ne (fun z => nL z.symm)]; exact I.free
  · rw [upd_ne (nc x c e)]; exact I.freeC x c e
  · obtain ⟨e, n, r⟩ := I.pin p hp
    exact ⟨e, by rw [upd_ne (np p hp)]; exact n, r⟩
  · by_cases hb : b = a
    · subst hb
      rw [upd_same] at e
      cases e
      exact hok
    · rw [upd_ne hb] at e
      exact (I.hok b u e).stay (fun c v _ q => q) (fun c q => by rw [upd_ne (ne q)]; exact q) fun c xs q => by rw [upd_ne (ne q)]; exact q
end
open PySem.W in
theorem keys_read {X : Cx} {pins : List (Addr × Obj)} {σ : St} {H : Hp} {s : Shared} {c : Ck} {g : Gh} {w : W} (I : Inv X pins σ H s) (R : Rel X.K c g w H) : ∀ {vs : List V} {us : List Value} {ds : List D} {ps : List PyData}, Vals vs us → RepL X.K g vs ds → toPyL ds = some ps →
    EachIs (fun v k => ∃ as, Reads s.heap v k as) us ps
  | _, _, _, _, .nil, .nil, e => by simp [toPyL] at e; subst e; exact .nil
  | _, _, _, _, .cons a r, .cons b t, e => by
    simp only [toPyL, Option.bind_eq_some_iff, Option.map_eq_some_iff] at e
    obtain ⟨p, e1, ps, e2, rfl⟩ := e
    obtain ⟨as, q, _⟩ := Rep.reads I R b e1 a
    exact .cons ⟨as, q⟩ (keys_read I R r t e2)
theorem toPyL_snoc : ∀ {xs : List D} {ps : List PyData} {x : D} {p : PyData}, toPyL xs = some ps → toPy x = some p → toPyL (xs ++ [x]) = some (ps ++ [p])
  | [], ps, x, p, h, e => by simp [toPyL] at h; subst h; simp [toPyL, e]
  | y :: r, ps, x, p, h, e => by
    simp only [toPyL, Option.bind_eq_some_iff, Option.map_eq_some_iff] at h
    obtain ⟨d, e1, ds, e2, rfl⟩ := h
    rw [List.cons_append, List.cons_append]
    simp [toPyL, e1, toPyL_snoc e2 e]
theorem toPyL_length : ∀ {xs : List D} {ps : List PyData}, toPyL xs = some ps → xs.length = ps.length
  | [], ps, h => by simp [toPyL] at h; subst h; rfl
  | y :: r, ps, h => by
    simp only [toPyL, Option.bind_eq_some_iff, Option.map_eq_some_iff] at h
    obtain ⟨d, e1, ds, e2, rfl⟩ := h
    rw [List.length_cons, List.length_cons, toPyL_length e2]
theorem Vals.snoc {vs : List V} {us : List Value} {v : V} {u : Value} (r : Vals vs us) (a : RelV v u) : Vals (vs ++ [v]) (us ++ [u]) := r.append (.cons a .nil)
section
open PySem.W
variable {X : Cx} {pins : List (Addr × Obj)} {σ : St} {H : Hp} {s : Shared} {c : Ck} {g : Gh} {w : W} {A : Around} {E : Value → Shared → Prop} {a kS : Addr} {f : Value} {vs : List Value} {kz : List PyData} {P : PySem.Fin → Shared → Prop}
/-- what the key gives of each item -/
def Turns (X : Cx) (σ : St) (c : Ck) (g : Gh) (w : W) (A : Around) (f : Value) (vs : List Value) (kz : List PyData) : Prop := ∀ (j : Nat) (v : Value) (k : PyData), vs[j]? = some v → kz[j]? = some k → ∀ pins1 H1 g1 s1, g.le g1 → Inv X pins1 σ H1 s1 → Rel X.K c g1 w H1 →
  wpAny (model X.prog X.w) A (call f [v]) (EP X pins1 σ fun v1 H2 => ∃ g2 d, g1.le g2 ∧ Rel X.K c g2 w H2 ∧ Rep X.K g2 v1 d ∧ toPy d = some k) (fun _ _ => False) s1
theorem srt_rest {e1 : Nat} (I : Inv X ((kS, seqObj "list" #[] 0) :: (a, seqObj "list" #[] e1) :: pins) σ H s) (R : Rel X.K c g w H) (hka : kS ≠ a) (q0 : X.s_0.heap.objs.size ≤ kS) (a0 : X.s_0.heap.objs.size ≤ a) (nq : ∀ p ∈ X.pn ++ pins, p.1 ≠ kS) (na : ∀ p ∈ X.pn ++ pins, p.1 ≠ a)
    (hlen : kz.length = vs.length) (hZ : vs.length ≤ sizeLine) (hal : AllAlike kz) (hsk : Sortable kz) (hu : ∀ d, d ∈ kz → A.units + d.depth < cLine) (turn : Turns X σ c g w A f vs kz)
    (h : ∀ H1 g1 s1 out c0, g.le g1 → Inv X pins σ H1 s1 → Rel X.K c g1 w H1 → s1.heap.get? a = some (seqObj "list" (List.toArray out) c0) → KeyedOut false kz vs out → H1 a = none → P (.done (.ret .none)) s1) :
    wpAny (model X.prog X.w) A (ksk_rest a f false vs.toArray e1 (.ref kS)) P E s := by
  unfold ksk_rest
  refine wpAny_bind (wpAny_rule ?_)
  first
    | rw [List.forIn_toArray]
    | (rw [← Array.forIn_toList]; simp only [List.toList_toArray])
    | rw [← Array.forIn_toList]
  have nqa : ∀ p ∈ X.pn ++ (a, seqObj "list" #[] e1) :: pins, p.1 ≠ kS := fun p hp => by
    rcases List.mem_append.mp hp with z | z
    · exact nq p (List.mem_append_left _ z)
    · rcases List.mem_cons.mp z with rfl | z
      · exact Ne.symm hka
      · exact nq p (List.mem_append_right _ z)
  refine wpAny_bind (ksk_fold (fun i s1 => ∃ kA e H1 g1 kvs kds, Inv X ((kS, seqObj "list" kA e) :: (a, seqObj "list" #[] e1) :: pins) σ H1 s1 ∧ g.le g1 ∧ Rel X.K c g1 w H1 ∧ Vals kvs kA.toList ∧ RepL X.K g1 kvs kds ∧ toPyL kds = some (kz.take i)) vs 0 s
    ⟨#[], 0, H, g, [], [], I, .rfl, R, .nil, .nil, by rw [List.take_zero]; rfl⟩ ?step ?done)
  case step =>
    rintro j x s1 hx ⟨kA, e, H1, g1, kvs, kds, I1, l1, R1, rv, rl, ek⟩
    simp only [Nat.zero_add] at ek ⊢
    have hj : j < vs.length := (List.getElem?_eq_some_iff.mp hx).1
    obtain ⟨k, hkj⟩ : ∃ k, kz[j]? = some k := ⟨_, List.getElem?_eq_getElem (by omega)⟩
    have hz : kA.size ≤ vs.length := by
      have e1 := rv.length
      have e2 := rl.length
      have e3 : kds.length = (kz.take j).length := toPyL_length ek
      rw [Array.length_toList] at e1
      have e4 : kA.size = (kz.take j).length := (e1.symm.trans e2).trans e3
      rw [e4, ← hlen]
      exact List.length_take_le' _ _
    refine wpAny_bind (wpAny_attempt (wpAny_mono (turn j x k hx hkj _ H1 g1 s1 l1 I1 R1) (fun v s2 he => ?_) fun _ _ hF => hF.elim))
    obtain ⟨v1, H2, I2, r2, g2, d, l2, R2, rd, ed⟩ := he
    have nk2 : s2.heap.get? kS = some (seqObj "list" kA e) := ClX.pin_at I2
    have s1' := Heap.SameBut.update s2.heap kS (Obj.mapSeq (·.push v))
    obtain ⟨c2, hc2⟩ : ∃ c2, (s2.heap.update kS (Obj.mapSeq (·.push v))).get? kS = some (seqObj "list" (kA.push v) c2) := ⟨_, get?_update_seq nk2 (·.push v)⟩
    have et : kz.take (j + 1) = kz.take j ++ [k] := by rw [List.take_add_one, hkj]; simp
    have ea : (kA.push v).toList = kA.toList ++ [v] := by simp
    refine wpAny_bind (listUpdate_at nk2 rfl ?_ (Nat.le_trans hz hZ) (Nat.le_trans (Nat.le_of_eq (Array.size_push ..)) (Nat.succ_le_succ (Nat.le_trans hz hZ))))
    have I3 := repin (tk := s2.toks) I2 (fun b u hb e => (s1'.2 b hb).trans e) hc2 (fun v z => nomatch z) q0 nqa
    refine wpAny_pure ⟨rfl, kA.push v, c2, H2, g2, kvs ++ [v1], kds ++ [d], I3, l1.trans l2, R2, by rw [ea]; exact Vals.snoc rv r2, (rl.le l2).append (.cons rd .nil), ?_⟩
    rw [et]
    exact toPyL_snoc ek ed
  case done =>
    rintro s1 ⟨kA, e, H1, g1, kvs, kds, I1, l1, R1, rv, rl, ek⟩
    have e3 : kz.take (0 + vs.length) = kz := List.take_of_length_le (by omega)
    rw [e3] at ek
    have hk := keys_read I1 R1 rv rl ek
    have hsz : kA.size = vs.length := by
      have h1 := hk.length
      rw [Array.length_toList] at h1
      omega
    have nk : s1.heap.get? kS = some (seqObj "list" kA e) := ClX.pin_at I1
    have na1 : s1.heap.get? a = some (seqObj "list" #[] e1) := ClX.pin_at (ClX.unpin I1)
    have nA := ClX.pin_un (ClX.unpin I1)
    obtain ⟨G, g1', g2'⟩ := restrict s1.heap fun b => decide (b ≠ kS)
    have kp : KeepsBut a G s1.heap := fun b o hb z => by
      by_cases hq : b = kS
      · rw [hq, g2' kS (by simp)] at z
        cases z
      · exact (g1' b (decide_eq_true hq)).symm.trans z
    refine wpAny_bind (listItems_at nk rfl ?_)
    refine keyH_end (κ := dataKind s1.heap kz) (h₁ := G) kp (g2' kS (by simp)) nk na1 hka (SortsAt.data (s := s1) hk hal hsk hu) hsz hZ fun h3 tk3 c3 k3 n3 => ?_
    have I4 : Inv X pins σ H1 { s1 with heap := h3, toks := tk3 } := turned2 I1 (fun b x hb1 hb2 z => k3 b x hb2 ((g1' b (decide_eq_true hb1)).trans z)) q0 a0 nq na
    exact h H1 g1 _ _ c3 l1 I4 R1 n3 ⟨s1.heap, kA.toList, hal, rfl, hk⟩ nA
theorem srt_tree {n : Nat} (I : Inv X ((a, seqObj "list" vs.toArray n) :: pins) σ H s) (R : Rel X.K c g w H) (a0 : X.s_0.heap.objs.size ≤ a) (na : ∀ p ∈ X.pn ++ pins, p.1 ≠ a)
    (hlen : kz.length = vs.length) (hZ : vs.length ≤ sizeLine) (hal : AllAlike kz) (hsk : Sortable kz) (hu : ∀ d, d ∈ kz → A.units + d.depth < cLine) (turn : Turns X σ c g w A f vs kz)
    (h : ∀ H1 g1 s1 out c0, g.le g1 → Inv X pins σ H1 s1 → Rel X.K c g1 w H1 → s1.heap.get? a = some (seqObj "list" (List.toArray out) c0) → KeyedOut false kz vs out → H1 a = none → P (.done (.ret .none)) s1) :
    wpAny (model X.prog X.w) A (ksk_tree a f false) P E s := by
  have ho := ClX.pin_at I
  have ha : a < s.heap.objs.size := Heap.lt_size ho
  obtain ⟨e1, ho1⟩ : ∃ e1, (s.heap.update a (Obj.mapSeq fun _ => (#[] : Array Value))).get? a = some (seqObj "list" #[] e1) := ⟨_, get?_update_seq ho fun _ => #[]⟩
  have sb := Heap.SameBut.update s.heap a (Obj.mapSeq fun _ => (#[] : Array Value))
  have I1 := repin (tk := s.toks) I (fun b u hb e => (sb.2 b hb).trans e) ho1 (fun v z => nomatch z) a0 na
  unfold ksk_tree
  refine wpAny_bind (listItems_at ho rfl ?_)
  refine wpAny_bind (listUpdate_at ho rfl ?_ (by rw [List.size_toArray]; exact hZ) (Nat.zero_le _))
  refine wpAny_bind (seqEpoch_at ho1 rfl ?_)
  refine wpAny_bind (wpAny_newTuple ?_ (by show vs.length ≤ _; exact hZ))
  refine wpAny_bind (wpAny_newList ?_ (Nat.zero_le _))
  refine wpAny_holding ?_
  have hsz : ((s.heap.update a (Obj.mapSeq fun _ => (#[] : Array Value))).push (seqObj "tuple" vs.toArray 0)).objs.size = s.heap.objs.size + 1 := by rw [size_push', Heap.size_update]
  have I2 := I1.kept (t' := s.toks) (h' := (s.heap.update a (Obj.mapSeq fun _ => (#[] : Array Value))).push (seqObj "tuple" vs.toArray 0)) (fun b u e => Heap.get?_push_of_some _ e)
  have I3 := ClX.pin_new (t' := s.toks) (o := seqObj "list" #[] 0) (h' := ((s.heap.update a (Obj.mapSeq fun _ => (#[] : Array Value))).push (seqObj "tuple" vs.toArray 0)).push (seqObj "list" #[] 0)) (a := ((s.heap.update a (Obj.mapSeq fun _ => (#[] : Array Value))).push (seqObj "tuple" vs.toArray 0)).objs.size) I2
    (fun b u e => Heap.get?_push_of_some _ e) (Nat.le_refl _) (Heap.get?_push_size _ rfl) (fun v z => nomatch z)
  have lt : ∀ p ∈ X.pn ++ (a, seqObj "list" vs.toArray n) :: pins, p.1 < s.heap.objs.size := fun p hp => Heap.lt_size (I.pin p hp).1
  refine srt_rest I3 R (by rw [hsz]; exact Nat.ne_of_gt (Nat.lt_succ_of_lt ha)) (by rw [hsz]; exact Nat.le_succ_of_le (Nat.le_trans a0 (Nat.le_of_lt ha))) a0 (fun p hp => ?_) na hlen hZ hal hsk hu turn h
  have := lt p ((List.mem_append.mp hp).elim (fun z => List.mem_append_left _ z) fun z => List.mem_append_right _ (List.mem_cons_of_mem _ z))
  rw [hsz]
  exact Nat.ne_of_lt (Nat.lt_succ_of_lt this)
end
end DL

/-! DLzw: sorted(xs, key=lambda ..), over trees. -/
namespace DL
open PySem PySem.Spec PyProof.Rows L2 LamX NdefX
open PySem.W (AllAlike Sortable dataLe EachIs)
section
variable {X : Cx} {pins : List (Addr × Obj)} {σ : St} {H : Hp} {s : Shared} {c : Ck} {g : Gh} {w : W}
theorem sorted_lam {xv : Value} {fa : Addr} {vs : List Value} {kz : List PyData} {Q : Value → Shared → Prop} (I : Inv X pins σ H s) (R : Rel X.K c g w H)
    (col : ∀ Q1 : List Value → Shared → Prop, (∀ h1 tk, (∀ b o, s.heap.get? b = some o → h1.get? b = some o) → Q1 vs { s with heap := h1, toks := tk }) → wpAny (model X.prog X.w) X.A.in1 (collect xv) Q1 X.xe s)
    (hlen : kz.length = vs.length) (hZ : vs.length ≤ sizeLine) (hal : AllAlike kz) (hsk : Sortable kz) (hu : ∀ d, d ∈ kz → X.A.units + 2 + d.depth < cLine) (turn : Turns X σ c g w X.A.in1.in1 (.ref fa) vs kz)
    (h : ∀ H1 g1 s1 out c0 a, g.le g1 → Inv X pins σ H1 s1 → Rel X.K c g1 w H1 → s1.heap.get? a = some (seqObj "list" (List.toArray out) c0) → PySem.W.KeyedOut false kz vs out → H1 a = none → X.s_0.heap.objs.size ≤ a → a ≠ X.env.locals → (∀ p ∈ X.pn ++ pins, p.1 ≠ a) → Q (.ref a) s1) :
    wpAny (model X.prog X.w) X.A (call (.builtin "sorted") [xv] [(Str.ofString "key", .ref fa)]) Q X.xe s := by
  refine call_function_entry_kw kind_sorted plain_sorted entry_sorted (ksk_s1 _ _) ?_
  unfold Builtin.«sorted»
  refine wpAny_bind (m := checkCount "sorted" 1 1 _) (wpAny_pure ?_)
  refine wpAny_bind (col _ fun h1 tk k1 => ?_)
  refine wpAny_bind (wpAny_newList ?_ hZ)
  have at0 : (h1.push (seqObj "list" vs.toArray 0)).get? h1.objs.size = some (seqObj "list" vs.toArray 0) := Heap.get?_push_size _ rfl
  have I1 := I.kept (t' := tk) (h' := h1) k1
  have I2 := ClX.pin_new (t' := tk) (o := seqObj "list" vs.toArray 0) (h' := h1.push (seqObj "list" vs.toArray 0)) (a := h1.objs.size) I1 (fun b u e => Heap.get?_push_of_some _ e) (Nat.le_refl _) at0 (fun v z => nomatch z)
  have lt : ∀ p ∈ X.pn ++ pins, p.1 < h1.objs.size := fun p hp => Heap.lt_size (I1.pin p hp).1
  have a0 : X.s_0.heap.objs.size ≤ h1.objs.size := Nat.le_trans I1.ok.above (Nat.le_of_lt I1.lt)
  have nL : h1.objs.size ≠ X.env.locals := Nat.ne_of_gt I1.lt
  refine wpAny_bind (wpAny_holding (wpAny_call_entry_kw slot_list_sort ⟨_, at0, rfl⟩ entry_list_sort ?body (ksk_l1 _ _)))
  case body =>
    rw [ksk_t1]
    refine wpAny_mono (srt_tree (A := X.A.in1.in1) (E := fun _ _ => False) (P := fun fl s3 => fl = .done (.ret .none) ∧ Q (.ref h1.objs.size) s3) I2 R a0 (fun p hp => Nat.ne_of_lt (lt p hp)) hlen hZ hal hsk (fun d hd => hu d hd) turn fun H1 g1 s1 out c0 l1 I3 R1 e1 ko n1 => ⟨rfl, ?_⟩) (fun fl s3 hf => ?_) fun _ _ z => z.elim
    · exact h H1 g1 s1 out c0 _ l1 I3 R1 e1 ko n1 a0 nL fun p hp => Nat.ne_of_lt (lt p hp)
    · obtain ⟨rfl, hq⟩ := hf
      exact ⟨_, rfl, wpAny_pure ⟨_, rfl, hq⟩⟩
end
/-- the items of what is walked -/
def seqD : D → Option (List D)
  | .lst xs => some xs
  | .tup xs => some xs
  | _ => none
def dSortL (P : Addr) (q : Str) (js : List Nat) (t : DTE) (te : DTE) : DTE := fun env w Q => te env w fun x w1 => ∃ (ds : List D) (key : D → PyData), seqD x = some ds ∧ w1.m P = some (.tab q) ∧
  (∀ d ∈ ds, t (lamE d js env) w1.mute fun kd w2 => w2 = w1.mute ∧ toPy kd = some (key d)) ∧ AllAlike (ds.map key) ∧ Sortable (ds.map key) ∧ (∀ d ∈ ds, (key d).depth ≤ 8) ∧ Q (.lst (ds.mergeSort (dataLe false key))) w1
theorem repL_zip {K : PySem.W.Frag} {g : Gh} : ∀ {vs : List V} {ds : List D} {us : List Value}, RepL K g vs ds → Vals vs us → ∃ bs : List (V × D), bs.map (·.1) = vs ∧ bs.map (·.2) = ds ∧ EachIs (fun (u : Value) (b : V × D) => RelV b.1 u ∧ Rep K g b.1 b.2) us bs
  | _, _, _, .nil, .nil => ⟨[], rfl, rfl, .nil⟩
  | _, _, _, .cons a r, .cons b t => by
    obtain ⟨bs, e1, e2, e3⟩ := repL_zip r t
    exact ⟨(_, _) :: bs, by rw [List.map_cons, e1], by rw [List.map_cons, e2], .cons ⟨b, a⟩ e3⟩
theorem zip_repL {K : PySem.W.Frag} {g : Gh} : ∀ {bs : List (V × D)} {us : List Value}, EachIs (fun (u : Value) (b : V × D) => RelV b.1 u ∧ Rep K g b.1 b.2) us bs → RepL K g (bs.map (·.1)) (bs.map (·.2)) ∧ Vals (bs.map (·.1)) us
  | _, _, .nil => ⟨.nil, .nil⟩
  | _, _, .cons a r => by
    obtain ⟨h1, h2⟩ := zip_repL r
    exact ⟨.cons a.2 h1, .cons a.1 h2⟩
section
variable {X : Cx} {Wv : WX} {P c0 : Addr} {q : Str} {params : Arguments} {e body : Expr} {scope : Scope} {lpos kpos p pos : Pos} {a : Str} {fr : List Str} {js : List Nat} {k : Nat} {t te : DTE}
theorem de_sortL (hm : X.mg "sorted" = none) (TB : TabB X.base X.mg c0 P) (hcode : X.env.code = .ref c0) (hq : X.env.qual ++ "<lambda>" = q) (hr : Room (k + 3) X.A) (hgd : X.A.guards = some []) (hu : X.A.units + 64 < cLine) (S : NScope (a :: fr) [a] fr scope)
    (he : DE X Wv e te)
    (hbody : ∀ (A : Around) (outer : List Env) (s : Shared) (H : Hp) (f c1 : Addr), Room k (A.deeper (envF (lamF X params scope c1) f s.heap.objs.size)) → A.guards = some [] →
      DE (ncx (L2.CX X.prog X.w) X.prog X.w X.K X.mg X.base (a :: fr) (lamF X params scope c1) f A outer s H (fun _ _ _ => False)) W0 body t)
    (hfree : ∀ y ∈ scope.names, y.2 = .free → X.env.scope.names.lookup y.1 = some .cell ∨ X.env.scope.names.lookup y.1 = some .free) (hfr : ∀ y ∈ fr, (y, NameKind.free) ∈ scope.names) (hjs : js.map (fun j => X.N[j]?) = fr.map some := by rfl)
    (hdef : defaultsOf params X.env = ([], []) := by rfl)
    (hbind : ∀ (q : Str) (cl : List (Str × Addr)) (pm cv ctv u : Value), bindArgs (PySem.W.kla_fn "<lambda>" q params body scope cl pm cv ctv) ⟨[u], []⟩ = pure [(a, u)] := by intros; rfl) (hg : Gl X "sorted" := by rfl)
    (h0 : starEach [e] X.env = (false, eval e X.env) :: starEach [] X.env := by rfl) (h1 : backTo pos (starEach [e] X.env) = (false, eval e X.env) :: backTo pos (starEach [] X.env) := by rfl) (h2 : (backTo pos (starEach [e] X.env)).any (·.1) = false := by rfl)
    (h3 : (backToKw pos (keywordEach [⟨some "key", .Lambda params body scope lpos, kpos⟩] X.env)).all (·.1.isSome) = true := by rfl) (h4 : (backToKw pos (keywordEach [⟨some "key", .Lambda params body scope lpos, kpos⟩] X.env)).any (·.1.isNone) = false := by rfl)
    (h5 : (backToKw pos (keywordEach [⟨some "key", .Lambda params body scope lpos, kpos⟩] X.env)).filterMap (·.1) = [Str.ofString "key"] := by rfl) :
    DE X Wv (.Call (.Name "sorted" p) [e] [⟨some "key", .Lambda params body scope lpos, kpos⟩] pos) (dSortL P q js t te) := by
  subst hq
  refine ⟨⟨fun pins s σ H Qv I h => ?_⟩⟩
  obtain ⟨c, g, env, w, Q, B, qq, kk⟩ := h
  refine wpAny_Call_Name_kw (ld_blt I hg hm (show bootBuiltins "sorted" = some (.builtin "sorted") by decide +kernel) ?_ (by decide) (by decide))
  refine PyProof.Rows.callWith_kw (thn ((pa_cons he.pe pa_nil h0).run pos pins s σ H (fun vs H1 => ∃ g1 w1 x v, vs = [v] ∧ g.le g1 ∧ Bx X.K Wv c g1 env w1 σ H1 ∧ Rep X.K g1 v x ∧ ∃ (ds : List D) (key : D → PyData), seqD x = some ds ∧ w1.m P = some (.tab (X.env.qual ++ "<lambda>")) ∧
      (∀ d ∈ ds, t (lamE d js env) w1.mute fun kd w2 => w2 = w1.mute ∧ toPy kd = some (key d)) ∧ AllAlike (ds.map key) ∧ Sortable (ds.map key) ∧ (∀ d ∈ ds, (key d).depth ≤ 8) ∧ Q (.lst (ds.mergeSort (dataLe false key))) w1) I
      (bindE B qq fun v H1 g1 w1 x l1 B1 r1 q1 => ⟨g1, w1, x, v, rfl, l1, B1, r1, q1⟩)) fun us s1 ⟨vs, H1, I1, rv, g1, w1, x, v, ev, l1, B1, rx, ds, key, hx, hP, hkey, hal, hsk, hdp, q1⟩ => ?_) h1 h2 h3 h4
  subst ev
  rw [h5]
  show wpAny _ _ (evalAll ((do let v ← eval (.Lambda params body scope lpos) X.env; standAt pos; pure v) :: [])) _ _ s1
  have hfr2 : ∀ y ∈ scope.names, y.2 = .free → ∃ c, X.env.cells.lookup y.1 = some c := fun y hy ey => (hfree y hy ey).elim (fun z => I.ok.has _ (.inl z)) fun z => I.ok.has _ (.inr z)
  refine wpAny_evalAll_cons (wpAny_bind (lam_mk I1 B1.R hP TB hcode hdef hfr2 fun f c1 H2 g2 s2 l2 I2 R2 hf hc => wpAny_bind (wpAny_standAt (wpAny_pure (wpAny_evalAll_nil ?_)))))
  cases rv with
  | @cons _ u _ ur ru rn =>
    cases rn
    show wpAny _ _ (call (.builtin "sorted") [u] [(Str.ofString "key", .ref f)]) _ _ s2
    have cp : Caps X (cloFrom X.env.cells scope.names []) fr js := Caps.made I.ok hfree hfr hjs
    -- what is walked: a list or a tuple
    have src : ∃ vsV its, Vals vsV its ∧ RepL X.K g2 vsV ds ∧ its.length ≤ sizeLine ∧ ∀ Q1 : List Value → Shared → Prop, (∀ h1 tk, (∀ b o, s2.heap.get? b = some o → h1.get? b = some o) → Q1 its { s2 with heap := h1, toks := tk }) → wpAny (model X.prog X.w) X.A.in1 (collect u) Q1 X.xe s2 := by
      cases rx.le l2 with
      | @lst b xs dl sL rl =>
        cases hx
        obtain rfl : u = Value.ref b := ru
        obtain ⟨its, rv2, ⟨o, n, e1, e2, _, e3⟩, hz⟩ := I2.list (R2.sqL sL)
        have hl := rv2.length
        exact ⟨xs, its, rv2, rl, by rw [← hl]; exact hz, fun Q1 hQ => wpAny_collect_seq b (.inl rfl) e1 e2 e3 (fun h1 k1 => by simpa using hQ h1 s2.toks k1) (by rw [List.size_toArray, ← hl]; exact hz)⟩
      | @tup b xs dl sT rl =>
        cases hx
        obtain rfl : u = Value.ref b := ru
        obtain ⟨its, rv2, ⟨o, e1, e2, n, e3⟩, hz⟩ := I2.tuple (R2.sqT sT)
        have hl := rv2.length
        exact ⟨xs, its, rv2, rl, by rw [← hl]; exact hz, fun Q1 hQ => wpAny_collect_seq b (.inr rfl) e1 e2 e3 (fun h1 k1 => by simpa using hQ h1 s2.toks k1) (by rw [List.size_toArray, ← hl]; exact hz)⟩
      | _ => cases hx
    obtain ⟨vsV, its, rvs, rls, hz, col⟩ := src
    obtain ⟨bs, eb1, eb2, eR⟩ := repL_zip rls rvs
    have ekz : ds.map key = bs.map fun b => key b.2 := by rw [← eb2, List.map_map]; rfl
    have lenB : its.length = bs.length := eR.length
    refine sorted_lam (vs := its) (kz := ds.map key) I2 R2 col (by rw [ekz, List.length_map]; exact lenB.symm) hz hal hsk (fun d hd => ?_) (fun j v2 k2 hv hk pins1 H3 g3 s3 l3 I3 R3 => ?_) fun H3 g3 s3 out cc aa l3 I3 R3 e3 ko n3 a0 nL np => ?_
    · obtain ⟨d2, hd2, rfl⟩ := List.mem_map.mp hd
      have := hdp d2 hd2
      omega
    · rw [ekz, List.getElem?_map] at hk
      obtain ⟨b, hb, rfl⟩ := Option.map_eq_some_iff.mp hk
      have hz2 : (v2, b) ∈ its.zip bs := List.mem_of_getElem? (i := j) (by rw [List.getElem?_zip_eq_some]; exact ⟨hv, hb⟩)
      obtain ⟨rb, rd⟩ := eR.zip _ hz2
      have hmem : b.2 ∈ ds := by rw [← eb2]; exact List.mem_map.mpr ⟨b, List.mem_of_getElem? hb, rfl⟩
      refine wpAny_mono (lam_run (k := k) I3 R3 (B1.E.le (l2.trans l3)) (l3.G _ _ hf) (l3.G _ _ hc) S cp I3.env0.in1.in1 hr.in1.in1 hgd hbind (fun A outer s H hA hB => hbody A outer s H f c1 hA hB) rb (rd.le l3) (hkey b.2 hmem)) (fun r4 s4 hq => ?_) fun _ _ z => z
      obtain ⟨v4, H4, I4, r4', g4, w4, d4, l4, R4, rd4, ew, ek⟩ := hq
      subst ew
      exact ⟨v4, H4, I4, r4', g4, d4, l4, R4.unmute (w0 := w1) B1.R.ex, rd4, ek⟩
    · have eo := PySem.W.keyedOut_each (bs := bs) (fun b : V × D => key b.2) (by rw [ekz] at ko; exact ko) eR
      obtain ⟨ro, vo⟩ := zip_repL eo
      have em : (bs.mergeSort (dataLe false fun b : V × D => key b.2)).map (·.2) = ds.mergeSort (dataLe false key) := by
        rw [← eb2]
        exact List.map_mergeSort fun x _ y _ => rfl
      rw [em] at ro
      have hlo : ((bs.mergeSort (dataLe false fun b : V × D => key b.2)).map (·.1)).length ≤ sizeLine := by
        rw [List.length_map, List.length_mergeSort, ← lenB]
        exact hz
      have I5 : Inv X pins σ (upd H3 aa (.lst ((bs.mergeSort (dataLe false fun b : V × D => key b.2)).map (·.1)))) s3 := inv_adoptG I3 e3 (fun v z => nomatch z) ⟨hlo, out, cc, vo, e3⟩ n3 a0 nL np
      have R5 := R3.alloc (o := .lst ((bs.mergeSort (dataLe false fun b : V × D => key b.2)).map (·.1))) n3
      have l5 := Gh.add_le (o := .lst ((bs.mergeSort (dataLe false fun b : V × D => key b.2)).map (·.1))) (R3.noG n3)
      exact ⟨.ref aa, _, I5, rfl, kk _ _ ⟨_, w1, _, ((l1.trans l2).trans l3).trans l5, R5, .lst (.inl (.inl Gh.add_at)) (ro.le (l3.trans l5)), q1⟩⟩
end
/-- the code object of the function at f -/
def CodeOf (K : PySem.W.Frag) (f c0 : Addr) : Prop := ∃ oc od fd osl, K.lookup f = some ⟨oc, od, .func fd, osl⟩ ∧ fd.code = .ref c0
/-- a def that makes a lambda: its code object, the table at P -/
structure TabX (K : PySem.W.Frag) (mg : Str → Option Value) (base : Heap) (x : Str) (P : Addr) : Prop where
  ex : ∀ f, mg x = some (.ref f) → ∃ c0, CodeOf K f c0 ∧ TabB base mg c0 P
structure TabXm (K : PySem.W.Frag) (mg : Str → Option Value) (base : Heap) (n m : Str) (P : Addr) : Prop where
  ex : ∀ C f, ClsAt K n C → PySem.W.findIn K (.ref C) m = some (some (.ref f)) → ∃ c0, CodeOf K f c0 ∧ TabB base mg c0 P
section
variable {P : Program} {w : World} {K : PySem.W.Frag} {mg : Str → Option Value} {base : Heap}
theorem fnG_ofC {x qual : Str} {st : Stmt} {f : Addr} {fd : FuncData} {N ps : List Str} {k : Nat} {sp : Sp} (F : Fun K x qual st f fd) (S : FnScope N ps (defScope st)) (len : ∀ vs H Q E, sp vs H Q E → vs.length = ps.length)
    (hbody : ∀ (cdv : Value), (∀ c0, CodeOf K f c0 → cdv = .ref c0) → ∀ (A : Around) (outer : List Env) (s : Shared) (H : Hp) (vs : List V) (Q : VK) (E : XK), Room k (A.deeper (envOfC qual (defScope st) s.heap.objs.size f cdv)) → A.guards = some [] → sp vs H Q E →
      ∃ t, PSs (cxOf (L2.CX P w) P w K mg base N qual (defScope st) f cdv A outer s H E) (defBody st) t ∧ t { nx := fun _ H' => Q .non H', rt := Q } (start N vs) H) : FnG P w K mg base (k + 1) f fd ps sp := by
  obtain ⟨oc, od, kV, doc, pm, an, cdv, ct, osl, rfl, lk, hcd⟩ := F.ex
  have hlink : ∀ c0, CodeOf K f c0 → cdv = .ref c0 := fun c0 ⟨oc2, od2, fd2, osl2, e, e2⟩ => by
    rw [lk] at e
    cases e
    exact e2
  refine ⟨len, fun A outer s H args us vs Q E hr hgd e0 hb r q0 => ?_⟩
  have hl := len _ _ _ _ q0
  have kin : K.In s.heap := e0.mod.kin.keeps fun b o e => (e0.bs b o e).1
  have nolim : s.heap.NoLimit := e0.mod.nolimit.keeps fun b o e => (e0.bs b o e).1
  refine codeAny_call_function hr.depth (kin _ _ lk) rfl S.co S.gen rfl (PySem.W.codeRec_of kin hcd) (hb _ _ _ _ ?_)
  refine wpAny_newFunctionEnv_cells S.kind (fun y hy => ?_) fun env he s1 x => ?_
  · obtain ⟨n, v⟩ := y
    cases S.par n (List.of_mem_zip hy).1 with
    | inl q => exact .inl q
    | inr q => exact .inr ⟨q, PySem.W.cellsFrom_some _ _ _ (.inl q)⟩
  · subst he
    refine ⟨nolim.keeps x.toInCall.keep, codeAny_func ?_⟩
    obtain ⟨t, ht, hq⟩ := hbody cdv hlink A outer s H vs Q E (hr.deeper _) hgd q0
    have J := inv_start (CX := L2.CX P w) (P := P) (w := w) (qual := qual) (f := f) (cd := cdv) (E := E) S hr.hd e0 hl r x
    refine wpAny_mono (ht.run [] s1 _ H _ J hq) (fun fl s' hs => ?_) fun e s' hs => hs
    have fin : ∀ {σ' : St} {H' : Hp} {v : V} {u : Value}, Inv (cxOf (L2.CX P w) P w K mg base N qual (defScope st) f cdv A outer s H E) [] σ' H' s' → RelV v u → Q v H' → CE outer P w H s Q u s' :=
      fun {_ H' v _} J rv q => ⟨v, H', J.os, J.bare, J.base, J.hok, rv, q⟩
    cases fl with
    | ret u =>
      obtain ⟨v, _, H', J, rv, q⟩ := hs
      exact fin J rv q
    | next =>
      obtain ⟨_, H', J, q⟩ := hs
      exact fin (v := V.non) (u := Value.none) J rfl q
    | brk => exact hs.elim fun _ h => h.elim fun _ h => h.2.elim
    | cont => exact hs.elim fun _ h => h.elim fun _ h => h.2.elim
/-- the rule for a def that makes a lambda -/
theorem dfnC {x qual : Str} {st : Stmt} {f : Addr} {fd : FuncData} {N ps : List Str} {k : Nat} {sp : DSp} (F : Fun K x qual st f fd) (S : FnScope N ps (defScope st)) (len : ∀ ds w Q, sp ds w Q → ds.length = ps.length)
    (hbody : ∀ (cdv : Value), (∀ c0, CodeOf K f c0 → cdv = .ref c0) → ∀ (A : Around) (outer : List Env) (s : Shared) (H : Hp) (E : XK), Room k (A.deeper (envOfC qual (defScope st) s.heap.objs.size f cdv)) → A.guards = some [] →
      ∃ t, DSs (cxOf (L2.CX P w) P w K mg base N qual (defScope st) f cdv A outer s H E) (fun cls d _ H => E cls d H) (defBody st) t ∧
        ∀ ds (wd : W) Q, sp ds wd Q → t { nx := fun _ w' => Q .non w', rt := Q } (startD N.length ds) wd) : FnG P w K mg base (k + 1) f fd ps (liftSp K sp) := by
  refine fnG_ofC F S (fun vs H Q E h => ?_) fun cdv hl A outer s H vs Q E hr hgd h => ?_
  · obtain ⟨c, g, w, ds, Q0, R, r, h, _⟩ := h
    rw [r.length]
    exact len _ _ _ h
  · obtain ⟨t, ht, hq⟩ := hbody cdv hl A outer s H E hr hgd
    obtain ⟨c, g, wd, ds, Q0, R, r, h, k1, k3, k2⟩ := h
    refine ⟨_, ht.ps, c, g, _, wd, _, ⟨R, r.env N, fun env' σ' H' cls d g' l' e' px => k2 cls d H' g' l' (k3 env' ▸ px)⟩, hq ds wd Q0 h, ⟨fun env w σ H g' l' B q => ?_, k1, fun env w σ H g' l' B q => q.elim, fun env w σ H g' l' B q => q.elim⟩⟩
    exact k1 .non H ⟨g', w, .non, l', B.R, .non, q⟩
end
section
variable {X : Cx} {Wv : WX} {P c0 : Addr} {q : Str} {params : Arguments} {e body : Expr} {scope : Scope} {lpos kpos p pos : Pos} {a : Str} {fr : List Str} {js : List Nat} {k : Nat} {t te : DTE}
theorem de_sortLam (hm : X.mg "sorted" = none) (TB : TabB X.base X.mg c0 P) (hcode : X.env.code = .ref c0) (hq : X.env.qual ++ "<lambda>" = q) (hr : Room (k + 3) X.A) (hgd : X.A.guards = some []) (hu : X.A.units + 64 < cLine)
    (he : DE X Wv e te) (hS : nscB (a :: fr) [a] fr scope = true) (hB : ndefB X.env.scope scope fr = true)
    (hbody : ∀ (A : Around) (outer : List Env) (s : Shared) (H : Hp) (f c1 : Addr), Room k (A.deeper (envF (lamF X params scope c1) f s.heap.objs.size)) → A.guards = some [] →
      DE (ncx (L2.CX X.prog X.w) X.prog X.w X.K X.mg X.base (a :: fr) (lamF X params scope c1) f A outer s H (fun _ _ _ => False)) W0 body t)
    (hjs : js.map (fun j => X.N[j]?) = fr.map some := by rfl)
    (hdef : defaultsOf params X.env = ([], []) := by rfl)
    (hbind : ∀ (q : Str) (cl : List (Str × Addr)) (pm cv ctv u : Value), bindArgs (PySem.W.kla_fn "<lambda>" q params body scope cl pm cv ctv) ⟨[u], []⟩ = pure [(a, u)] := by intros; rfl) (hg : Gl X "sorted" := by rfl)
    (h0 : starEach [e] X.env = (false, eval e X.env) :: starEach [] X.env := by rfl) (h1 : backTo pos (starEach [e] X.env) = (false, eval e X.env) :: backTo pos (starEach [] X.env) := by rfl) (h2 : (backTo pos (starEach [e] X.env)).any (·.1) = false := by rfl)
    (h3 : (backToKw pos (keywordEach [⟨some "key", .Lambda params body scope lpos, kpos⟩] X.env)).all (·.1.isSome) = true := by rfl) (h4 : (backToKw pos (keywordEach [⟨some "key", .Lambda params body scope lpos, kpos⟩] X.env)).any (·.1.isNone) = false := by rfl)
    (h5 : (backToKw pos (keywordEach [⟨some "key", .Lambda params body scope lpos, kpos⟩] X.env)).filterMap (·.1) = [Str.ofString "key"] := by rfl) :
    DE X Wv (.Call (.Name "sorted" p) [e] [⟨some "key", .Lambda params body scope lpos, kpos⟩] pos) (dSortL P q js t te) :=
  de_sortL hm TB hcode hq hr hgd hu (nscope_by hS) he hbody (ndef_free hB) (ndef_fr hB) hjs hdef hbind hg h0 h1 h2 h3 h4 h5
end
end DL

/-! DLzx: the law's own call, where defs make lambdas. -/
namespace DL
open PySem PySem.Spec PyProof.Rows L2 LamX
/-- the table of the def n (at tp n) is known -/
def Lmk (tp : Str → Addr) (n : Str) (w : W) : Prop := w.m (tp n) = some (.tab (n ++ ".<locals>.<lambda>"))
theorem Lmk.new {tp : Str → Addr} {n : Str} {w : W} (h : Lmk tp n w) {p : Addr} {o : MO} (hp : w.m p = none) : Lmk tp n (w.put p o) := by
  unfold Lmk
  rw [W.put_ne (fun z => by rw [Lmk, z, hp] at h; cases h)]
  exact h
theorem Lmk.ne {tp : Str → Addr} {n : Str} {w : W} (h : Lmk tp n w) {p : Addr} {o : MO} (hp : w.m p = some o) (ho : ∀ q, o ≠ .tab q) : tp n ≠ p := fun z => by
  rw [Lmk, z, hp] at h
  cases h
  exact ho _ rfl
/-- the law's promise, where the tables of the defs ns are known -/
def spLawT (ns : List Str) (tp : Str → Addr) : DSp := fun ds w Q => ∃ zs : List Int, ds = [.lst (zs.map .int)] ∧ zs.length ≤ 63 ∧ w.n = 0 ∧ (∀ n ∈ ns, Lmk tp n w) ∧ ∀ w', Q (.bl true) w'
/-- a lambda's maker: its name, its code object, its table -/
abbrev Mkr := Str × Addr × Addr
def tpOf (ms : List Mkr) (n : Str) : Addr := match ms with
  | [] => 0
  | m :: r => if m.1 = n then m.2.2 else tpOf r n
def mem0 (ms : List Mkr) : Mem := fun b => match ms with
  | [] => none
  | m :: r => if m.2.2 = b then some (.tab (m.1 ++ ".<locals>.<lambda>")) else mem0 r b
theorem mem0_at : ∀ {ms : List Mkr} {b : Addr} {o : MO}, mem0 ms b = some o → b ∈ ms.map (·.2.2) ∧ ∃ q, o = .tab q
  | [], _, _, h => by cases h
  | m :: r, b, o, h => by
    unfold mem0 at h
    by_cases e : m.2.2 = b
    · rw [if_pos e] at h
      cases h
      exact ⟨by rw [← e]; exact List.mem_cons_self .., _, rfl⟩
    · rw [if_neg e] at h
      obtain ⟨h1, h2⟩ := mem0_at h
      exact ⟨List.mem_cons_of_mem _ h1, h2⟩
section
variable {P : Program} {w : World} {K : PySem.W.Frag} {mg mb : Str → Option Value} {k : Nat} {fa a : Addr} {x : Str} {s1 : Shared} {vs : List Value} {zs : List Int} {ms : List Mkr} {ns : List Str}
theorem law_runT (kin : K.In s1.heap) (hns : s1.heap.Ns mainGlobals mg) (hb : s1.heap.Ns builtinsNs mb) (hbb : ∀ x : Str, x ≠ "__name__" → mb x = bootBuiltins x) (hlim : s1.heap.NoLimit) (hg : s1.gens = #[])
    (hT : ∀ b ∈ ms.map (·.2.2), s1.heap.get? b = some { cls := .none, data := .fields #[] }) (nT : ∀ b ∈ ms.map (·.2.2), K.lookup b = none) (hC : ∀ m ∈ ms, PySem.W.CodeHd s1.heap m.2.1 m.2.2)
    (hbm : ∃ (bm : Addr) (ob : Obj), mg "__builtins__" = some (.ref bm) ∧ bm ≠ builtinsNs ∧ s1.heap.get? bm = some ob ∧ ob.cls = .type "module" ∧ ob.dict = some builtinsNs ∧ ob.data = .plain)
    (ha : s1.heap.get? a = some { cls := .type "list", data := .seq vs.toArray }) (hi : IntsAre vs zs) (hl : zs.length ≤ 63) (hr : Room k callerA) (hms : ∀ n ∈ ns, mem0 ms (tpOf ms n) = some (.tab (n ++ ".<locals>.<lambda>")))
    (hfa : mg x = some (.ref fa)) (F : ∀ base : Heap, K.In base → base.Ns mainGlobals mg → (∀ m ∈ ms, TabB base mg m.2.1 m.2.2) → DCal P w K mg base k x 1 (spLawT ns (tpOf ms))) :
    codeAny (model P w) callerA (.call (.ref fa) ⟨[.ref a], []⟩) (fun r s2 => r = .ok (.ret (.bool true)) ∧ OldK s1.heap s2.heap ∧ s2.os = s1.os ∧ AllBare s2.gens) s1 := by
  have rv := vals_ints hi
  have hz : zs.length ≤ sizeLine := Nat.le_trans hl (by decide)
  have aT : a ∉ ms.map (·.2.2) := fun z => by
    have q := hT a z
    rw [ha] at q
    cases (show Data.seq vs.toArray _ = Data.fields #[] from congrArg Obj.data (Option.some.inj q))
  -- H: the script (or nothing) and the tables
  have go : ∀ G0 : Hp, (∀ b, G0 b = none ∨ b = a ∧ G0 b = some (.frz { cls := .type "list", data := .seq vs.toArray } (.lst (zs.map V.int)))) → (G0 a ≠ none → K.lookup a = none) → SqL K G0 a (zs.map V.int) →
      codeAny (model P w) callerA (.call (.ref fa) ⟨[.ref a], []⟩) (fun r s2 => r = .ok (.ret (.bool true)) ∧ OldK s1.heap s2.heap ∧ s2.os = s1.os ∧ AllBare s2.gens) s1 := by
    intro G0 hO hK hS
    let H : Hp := fun b => if b ∈ ms.map (·.2.2) then some (.tbl #[]) else G0 b
    have HT : ∀ b, b ∈ ms.map (·.2.2) → H b = some (.tbl #[]) := fun b hb => if_pos hb
    have HG : ∀ b, b ∉ ms.map (·.2.2) → H b = G0 b := fun b hb => if_neg hb
    have GT : ∀ b, b ∈ ms.map (·.2.2) → G0 b = none := fun b hb => (hO b).elim id fun ⟨e, _⟩ => absurd (e ▸ hb) aT
    have GH : ∀ b u, G0 b = some u → H b = some u := fun b u e => by rw [HG b (fun z => by rw [GT b z] at e; cases e)]; exact e
    have none_of : ∀ {b : Addr} {o : Obj}, s1.heap.get? b = some o → (∀ us n, o.data ≠ .seq us n) → o.data ≠ .fields #[] → H b = none := fun {b o} e n1 n2 => by
      by_cases hb : b ∈ ms.map (·.2.2)
      · rw [hT b hb] at e; cases e; exact absurd rfl n2
      · rw [HG b hb]
        refine (hO b).elim id fun ⟨eb, _⟩ => ?_
        rw [eb, ha] at e
        cases e
        exact absurd rfl (n1 _ _)
    have dict_none : ∀ {b : Addr} {o : Obj} {es : Array DictEntry} {ep : Nat}, s1.heap.get? b = some o → o.data = .dict es ep → H b = none := fun {b o es ep} e d => none_of e (fun us n z => by rw [d] at z; cases z) fun z => by rw [d] at z; cases z
    have up : ∀ {b : Addr} {m : Str → Option Value}, s1.heap.Ns b m → (hidT s1.heap H).Ns b m := fun ⟨o, es, ep, e, d, r⟩ => ⟨o, es, ep, hidT_get e (dict_none e d), d, r⟩
    have kb : K.In (hidT s1.heap H) := fun b o e => hidT_get (kin b o e) (by
      by_cases hb : b ∈ ms.map (·.2.2)
      · rw [nT b hb] at e; cases e
      · rw [HG b hb]
        refine (hO b).elim id fun ⟨eb, z⟩ => ?_
        have := hK (by rw [← eb, z]; simp)
        rw [← eb, e] at this
        cases this)
    have lim : (hidT s1.heap H).NoLimit := let ⟨mc, h1, h2⟩ := hlim; ⟨mc, up h1, h2⟩
    have hok : HOk P w H s1.heap := fun b u e => by
      by_cases hb : b ∈ ms.map (·.2.2)
      · rw [HT b hb] at e; cases e; exact hT b hb
      · rw [HG b hb] at e
        rcases hO b with z | ⟨eb, z⟩
        · rw [z] at e; cases e
        · rw [z] at e
          cases e
          subst eb
          exact ⟨ha, by rw [List.length_map]; exact hz, vs, _, rv, ha⟩
    have TB : ∀ m ∈ ms, TabB (hidT s1.heap H) mg m.2.1 m.2.2 := fun m hm => by
      have hP := hT _ (List.mem_map.mpr ⟨m, hm, rfl⟩)
      refine ⟨?_, ?_, fun z => ?_⟩
      · obtain ⟨o, us, f1, f2, f3, f4, f5, f6, f7, e1, e2, e3, e4, r⟩ := hC m hm
        exact ⟨o, us, f1, f2, f3, f4, f5, f6, f7, hidT_get e1 (none_of e1 (fun us n z => by rw [e3] at z; cases z) fun z => by rw [e3] at z; cases z; simp at e4), e2, e3, e4, r⟩
      · obtain ⟨bm, ob, b1, b2, b3, b4, b5, b6⟩ := hbm
        refine ⟨bm, ob, b1, b2, fun q => ?_, fun q => ?_, hidT_get b3 (none_of b3 (fun us n z => by rw [b6] at z; cases z) fun z => by rw [b6] at z; cases z), b4, b5, b6⟩
        · obtain ⟨o, es, ep, e, d, _⟩ := hns
          rw [q, e] at b3
          cases b3
          rw [d] at b6
          cases b6
        · rw [q, hP] at b3
          cases b3
          cases b6
      · obtain ⟨o, es, ep, e, d, _⟩ := hns
        rw [z, hP] at e
        cases e
        cases d
    have e0 : Env0 P w K mg (hidT s1.heap H) callerA [] s1 H :=
      { frames := rfl, mod := ⟨kb, up hns, ⟨mb, up hb, hbb⟩, lim⟩, bs := fun b o e => of_hidT e, bsz := Nat.le_of_eq (hidT_size _ _), funs := trivial, frf := fun b hb => (List.not_mem_nil hb).elim, hok := hok, bare := .of_eq hg }
    obtain ⟨f1, fd, ps, FF, hm, _, bd, pl⟩ := (F _ kb (up hns) TB).ex
    rw [hfa] at hm
    cases hm
    have bt := bd s1 [.ref a] kin (by rw [pl]; rfl)
    have hsp : liftSp K (spLawT ns (tpOf ms)) [.ref a] H (fun v _ => v = .bl true) fun _ _ _ => False := by
      refine ⟨⟨fun _ => none, fun _ => none, noE⟩, ⟨G0, fun _ => false⟩, ⟨mem0 ms, 0, noE⟩, [.lst (zs.map .int)], fun d _ => d = .bl true, ⟨fun b u e => .inl ⟨rfl, GH b u e⟩, fun b o e => ?_, fun b m e => ?_, fun b o e => ?_, fun b e => ?_, rfl⟩,
        .cons (.lst hS (repInts zs)) .nil, ⟨zs, rfl, hl, rfl, fun n hn => hms n hn, fun _ => rfl⟩, fun v H2 ⟨g2, w2, d, _, _, r, q⟩ => ?_, fun _ => rfl, fun cls d H2 g2 _ ⟨_, _, _, _, _, _, _, z, _⟩ => z⟩
      · cases (show (none : Option Obj) = some o from e)
      · obtain ⟨h1, q, rfl⟩ := mem0_at e
        exact ⟨GT b h1, rfl, rfl, _, HT b h1, .tab trivial fun pos cv z => by
          have z : codeAmong pos [] = some cv := z
          simp [codeAmong] at z⟩
      · cases (show (none : Option HO) = some o from e)
      · cases (show false = true from e)
      · have q : d = .bl true := q
        subst q
        cases r
        rfl
    refine codeAny_mono (FF.run callerA [] s1 H _ [.ref a] [.ref a] _ _ hr rfl e0 bt (.cons rfl .nil) hsp) fun r s2 h => ?_
    match r, h with
    | .error e, ⟨_, _, _, _, _, _, _, _, _, _, _, _, z⟩ => exact z.elim
    | .ok (.ret u), ⟨v, H2, os, bare, un, hok2, r2, q⟩ =>
      have q : v = .bl true := q
      subst q
      have r2 : u = Value.bool true := r2
      subst r2
      have old : ∀ b o, b ∉ ms.map (·.2.2) → s1.heap.get? b = some o → s2.heap.get? b = some o := fun b o nb e => by
        rcases hO b with z | ⟨_, z⟩
        · exact un.keep b o e ((HG b nb).trans z) (fun m => List.not_mem_nil m) (fun m => List.not_mem_nil m)
        · have e1 := (hok b _ (GH b _ z)).1
          rw [e] at e1
          cases e1
          exact (hok2 b _ (un.frzs b _ _ (GH b _ z))).1
      have grown : ∀ b, b ∈ ms.map (·.2.2) → ∃ more : Array Value, s2.heap.get? b = some { cls := .none, data := .fields more } := fun b hb => by
        obtain ⟨more, z⟩ := un.tbls b #[] (HT b hb)
        exact ⟨_, hok2 b _ z⟩
      refine ⟨rfl, ⟨fun b o e => ?_, fun b o e => ?_⟩, os, bare⟩
      · by_cases nb : b ∈ ms.map (·.2.2)
        · obtain ⟨more, hm⟩ := grown b nb
          obtain ⟨m, hmm, em⟩ := List.mem_map.mp nb
          have e5 := hT b nb
          rw [e] at e5
          cases e5
          subst em
          exact .inr (.inl ⟨((hC m hmm).tab (hT _ nb)).isCodeTable, rfl, #[], more, rfl, by rw [Array.empty_append]; exact hm⟩)
        · exact .inl (old b o nb e)
      · by_cases nb : b ∈ ms.map (·.2.2)
        · obtain ⟨more, hm⟩ := grown b nb
          exact ⟨_, hm⟩
        · exact ⟨o, old b o nb e⟩
  cases hk : K.lookup a with
  | some o =>
    have e := kin a o hk
    rw [ha] at e
    cases e
    exact go (fun _ => none) (fun _ => .inl rfl) (fun z => absurd rfl z) (.inr ⟨_, vs.toArray, _, hk, rfl, rfl, rfl, by rw [List.size_toArray, hi.length]; exact hz, by simpa using rv⟩)
  | none =>
    refine go (upd (fun _ => none) a (.frz { cls := .type "list", data := .seq vs.toArray } (.lst (zs.map V.int)))) (fun b => ?_) (fun _ => hk) (.inl (.inr ⟨_, upd_same⟩))
    by_cases e : b = a
    · subst e; exact .inr ⟨rfl, upd_same⟩
    · exact .inl (upd_ne e)
end
/-- the goal that k_head leaves (case hc), from the law's promise -/
theorem walkGT {l : PySem.W.OpenLaw} {k : Nat} {q : Program} {loose : List Str} {XP : (Str → Option Value) → Heap → Prop} {YP : World → Heap → Prop} {d : DefRec} {K : Params → PySem.W.Frag}
    (hn : l.most = some 63) (hdf : d.params.defaults = []) (hr : Room k callerA) (hY : ∀ (w : World) (h : Heap), YP w h → (K w.params).In h)
    (F : ∀ (w : World) (mg : Str → Option Value) (h : Heap), YP w h → (K w.params).In h → h.Ns mainGlobals mg → ∃ (ms : List Mkr) (ns : List Str), (∀ b ∈ ms.map (·.2.2), h.get? b = some { cls := .none, data := .fields #[] }) ∧ (∀ b ∈ ms.map (·.2.2), (K w.params).lookup b = none) ∧
      (∀ m ∈ ms, PySem.W.codeHdIn (K w.params) m.2.1 m.2.2 = true) ∧ (∀ n ∈ ns, mem0 ms (tpOf ms n) = some (.tab (n ++ ".<locals>.<lambda>"))) ∧
      ∀ base : Heap, (K w.params).In base → base.Ns mainGlobals mg → (∀ m ∈ ms, TabB base mg m.2.1 m.2.2) → DCal l.prog w (K w.params) mg base k d.name 1 (spLawT ns (tpOf ms))) :
    PySem.W.WalkO q loose XP YP l.row.toRowW d [] (fun f vs => PySem.call f vs) := by
  refine Att.attach_call hn hdf fun w s₀ s₁ mg mb fa o pm cd doc a vs ns G Y ho hd hcd hmg hobj hints hlen hg => ?_
  have KX := hY w _ Y
  obtain ⟨ms, nn, h1, h2, h3, h4, F⟩ := F w mg _ Y KX G.T.g
  exact law_runT KX G.T.g G.T.b G.T.builtins G.T.nolimit hg h1 h2 (fun m hm => PySem.W.codeHd_of_K KX (h3 m hm)) G.T.bmain hobj hints hlen hr h4 hmg F
/-! ### the maker's facts, one by one -/
def tabAt (o : Obj) : Option Addr := match o.data with
  | .fields vs => (match (vs[11]? : Option Value) with
    | some (.ref P) => some P
    | _ => none)
  | _ => none
section
variable {K : PySem.W.Frag} {h : Heap} {mg : Str → Option Value} {base : Heap} {f c0 P C : Addr} {R : Prop} {oc : Value} {od an : Option Addr} {osl : Array (Option Value)} {dV kV doc pm ct : Value} {o2 : Obj}
theorem MkrF.ofC {b : List Stmt} {sc : Scope} {params : Arguments} {nm qual : Str} (n : Str) (X : K.In h) (G : h.Ns mainGlobals mg) (a : PySem.W.nsIn K mainGlobals n = some (some (.ref f)))
    (l : K.lookup f = some ⟨oc, od, .func (PySem.W.fnOf nm qual params b sc dV kV doc pm an (.ref c0) ct), osl⟩) (l2 : K.lookup c0 = some o2) (p : tabAt o2 = some P) (hd : PySem.W.codeHdIn K c0 P = true) (nt : K.lookup P = none)
    (r : (∀ f1, mg n = some (.ref f1) → CodeOf K f1 c0) → PySem.W.codeHdIn K c0 P = true → K.lookup P = none → R) : R :=
  r (fun f1 e => by
    have e2 := PySem.W.mg_of X G a
    rw [e] at e2
    cases e2
    exact ⟨oc, od, _, osl, l, rfl⟩) hd nt
theorem MkrM.ofC {b : List Stmt} {sc : Scope} {params : Arguments} {nm qual : Str} (n m : Str) (X : K.In h) (G : h.Ns mainGlobals mg) (kC : ClsAt K n C) (a : PySem.W.findIn K (.ref C) m = some (some (.ref f)))
    (l : K.lookup f = some ⟨oc, od, .func (PySem.W.fnOf nm qual params b sc dV kV doc pm an (.ref c0) ct), osl⟩) (l2 : K.lookup c0 = some o2) (p : tabAt o2 = some P) (hd : PySem.W.codeHdIn K c0 P = true) (nt : K.lookup P = none)
    (r : (∀ C1 f1, ClsAt K n C1 → PySem.W.findIn K (.ref C1) m = some (some (.ref f1)) → CodeOf K f1 c0) → PySem.W.codeHdIn K c0 P = true → K.lookup P = none → R) : R :=
  r (fun C1 f1 k1 e => by
    cases kC.eq k1
    rw [a] at e
    cases e
    exact ⟨oc, od, _, osl, l, rfl⟩) hd nt
theorem TabX.of {ms : List Mkr} {n : Str} (l : ∀ f1, mg n = some (.ref f1) → CodeOf K f1 c0) (e : tpOf ms n = P) (b : TabB base mg c0 P) : TabX K mg base n (tpOf ms n) := ⟨fun f1 h => ⟨c0, l f1 h, e ▸ b⟩⟩
theorem TabXm.of {ms : List Mkr} {n m : Str} {x : Str} (l : ∀ C1 f1, ClsAt K n C1 → PySem.W.findIn K (.ref C1) m = some (some (.ref f1)) → CodeOf K f1 c0) (e : tpOf ms x = P) (b : TabB base mg c0 P) : TabXm K mg base n m (tpOf ms x) := ⟨fun C1 f1 h1 h2 => ⟨c0, l C1 f1 h1 h2, e ▸ b⟩⟩
end
end DL

/-! DLzy: a comprehension over a dict that may change (not within). -/
namespace DL
open PySem PySem.Spec PyProof.Rows L2
section
variable {K : PySem.W.Frag} {c : Ck} {g : Gh} {w : W} {H : Hp} {p : Addr} {od : Obj} {xs : List (Key × V)} {kvs : List (Key × D)}
/-- the dict at p is held fast, and not spoken of, for a while -/
abbrev Ck.lm (c : Ck) (p : Addr) (od : Obj) (xs : List (Key × V)) : Ck := c.fr p (.frz od (.dK xs))
theorem Rel.lockM (R : Rel K c g w H) (hm : w.m p = some (.dic kvs)) : Rel K (c.lm p od xs) g (w.del p) (upd H p (.frz od (.dK xs))) := by
  obtain ⟨hG, hF, hP, o, ho, _⟩ := R.mu p _ hm
  refine ⟨fun a u e => ?_, R.lck, fun a m e => ?_, fun a q e => ?_, fun a e => ?_, R.ex⟩
  · rw [upd_ne (ne_of_none e hG)]
    exact R.imm a u e
  · have ha : a ≠ p := fun z => by
      subst z
      have e' : delM w.m a a = some m := e
      rw [delM_same] at e'; cases e'
    have e' : delM w.m p a = some m := e
    rw [delM_ne ha] at e'
    obtain ⟨h1, h2, h3, o', h4, h5⟩ := R.mu a m e'
    exact ⟨h1, by show upd c.F p _ a = none; rw [upd_ne ha]; exact h2, h3, o', by rw [upd_ne ha]; exact h4, h5⟩
  · by_cases ha : a = p
    · subst ha
      have e' : upd c.F a (.frz od (.dK xs)) a = some q := e
      rw [upd_same] at e'; cases e'
      exact ⟨upd_same, hG, hP⟩
    · have e' : upd c.F p (.frz od (.dK xs)) a = some q := e
      rw [upd_ne ha] at e'
      rw [upd_ne ha]
      exact R.frm a q e'
  · obtain ⟨h1, ys, h2, h3⟩ := R.pen a e
    have ha : a ≠ p := fun z => by rw [z, hP] at e; cases e
    exact ⟨h1, ys, by rw [upd_ne ha]; exact h2, h3⟩
theorem Rel.unlockM (R : Rel K (c.lm p od xs) g w H) (hF : c.F p = none) (r : RepK K g xs kvs) : H p = some (.frz od (.dK xs)) ∧ Rel K c g (w.put p (.dic kvs)) (upd H p (.dK xs)) := by
  obtain ⟨h0, hG, hP⟩ := R.frm p _ upd_same
  have R1 : Rel K (c.fr p (.dK xs)) g w (upd H p (.dK xs)) := R.writeF
  exact ⟨h0, R1.landM hF (.dic r)⟩
theorem lm_at (R : Rel K c g w H) (h : c.F p = some (.frz od (.dK xs))) : H p = some (.frz od (.dK xs)) := (R.frm p _ h).1
end
/-- what is walked: the keys of a dict that may change -/
def dMd (ti : DTE) (env : En) (w : W) (Q : Addr → List (Key × D) → W → Prop) : Prop := ti env w fun x w1 => ∃ p kvs, x = .ref p ∧ w1.m p = some (.dic kvs) ∧ Q p kvs w1
def liftIM (X : Cx) (Wv : WX) (te : DTE) : TI := fun σ H Rv => ∃ c g env w Q, Bx X.K Wv c g env w σ H ∧ dMd te env w Q ∧
  ∀ p kvs xs od w1 H1 g1, g.le g1 → Rel X.K (c.lm p od xs) g1 (w1.del p) H1 → c.F p = none → w1.m p = some (.dic kvs) → w1.e = c.e → RepK X.K g1 xs kvs → NoFz X p → Q p kvs w1 → Rv (Itk p od xs) H1
theorem pi_md {X : Cx} {Wv : WX} {tg e : Expr} {t : DTE} (h : DE X Wv e t) : PI X tg e (liftIM X Wv t) :=
  PI_imp (pi_any (pe_lk h.pe)) fun σ H Rv ⟨c, g, env, w, Q, B, q, k⟩ => bindE B (show t env w _ from q) fun v H1 g1 w1 x l1 B1 r1 ⟨p, kvs, ex, hm, q1⟩ => by
    subst ex
    cases r1
    obtain ⟨xs, hH, r⟩ := B1.R.mdic hm
    obtain ⟨_, hF, _⟩ := B1.R.mu p _ hm
    exact .inr ⟨p, _, hH, trivial, fun od nf => .inr (.inr (.inr ⟨p, od, xs, rfl, upd_same, k p kvs xs od w1 _ g1 l1 (B1.R.lockM hm) hF hm B1.R.ex r nf q1⟩))⟩
/-- [elt for target in a dict that may change if ..] -/
def dLcMD (fin : List D → W → DK → Prop) (ti : DTE) (gd : DTG) (tt : DTT) (te : DTE) (vs : List Nat) : DTE := fun env w Q => dMd ti env w fun p kvs w0 => (dkeys kvs).length ≤ sizeLine ∧ ∃ Pv : Nat → List D → W → Prop, Pv 0 [] (w0.del p) ∧
  (∀ i x acc w2, (dkeys kvs)[i]? = some x → acc.length ≤ i → Pv i acc w2 → gd x (wipeD env vs) w2.mute fun env2 w3 => tt env2 w3 fun b w4 => if b = true then te env2 w4 fun y w5 => Pv (i + 1) (acc ++ [y]) (w5.as w0) else Pv (i + 1) acc (w4.as w0)) ∧
  ∀ acc w2, Pv (dkeys kvs).length acc w2 → fin acc w2 fun d w3 => Q d (w3.put p (.dic kvs))
theorem lcMD_lift {X : Cx} {Wv : WX} {fin : List D → W → DK → Prop} (hfin : FinOk X.K fin) {ti : DTE} {gd : DTG} {tt : DTT} {te : DTE} {sl vs : List Nat} (hsl : ∀ i ∈ sl, i ∈ vs) {σ : St} {H : Hp} {Qv : VK} (h : liftE X.K Wv (dLcMD fin ti gd tt te vs) σ H Qv) :
    tLc (liftIM X Wv ti) (liftG X.K W0 sl gd) (liftT X.K W0 tt) (liftE X.K W0 te) vs σ H (unlV X Qv) := by
  obtain ⟨c, g, env, w, Q, B, q, k⟩ := h
  refine ⟨c, g, env, w, _, B, q, fun p kvs xs od w0 H1 g1 l1 R1 hFp hm e0 rk nf q1 => fun D hD => ?_⟩
  obtain ⟨hz, Pv, h0, hstep, hd⟩ := q1
  have hF : (c.lm p od xs).F D = none := R1.noF hD
  have hDp : p ≠ D := fun z => by rw [← z, (R1.frm p _ upd_same).1] at hD; cases hD
  have atF : ∀ {accv : List V} {g2 : Gh} {w2 : W} {H2 : Hp}, Rel X.K ((c.lm p od xs).fr D (.lst accv)) g2 w2 H2 → H2 p = some (.frz od (.dK xs)) := fun {accv g2 w2 H2} R2 => lm_at R2 (by show upd (upd c.F p _) D _ p = _; rw [upd_ne hDp, upd_same])
  have hlen : (dkeys kvs).length = xs.length := by unfold dkeys; rw [List.length_map, rk.length]
  refine ⟨fun i m H => m = (dkeys kvs).length - i ∧ i ≤ (dkeys kvs).length ∧ ∃ g2 acc accv w2, g1.le g2 ∧ RepL X.K g2 accv acc ∧ acc.length ≤ i ∧ Rel X.K ((c.lm p od xs).fr D (.lst accv)) g2 w2 H ∧ Pv i acc w2,
    ⟨(dkeys kvs).length, by simp, Nat.zero_le _, g1, [], [], _, .rfl, .nil, Nat.le_refl _, R1.allocF hD, h0⟩, ?_⟩
  rintro i m H2 ⟨rfl, hi, g2, acc, accv, w2, l2, r2, ha, R2, pv⟩
  by_cases hlt : i < (dkeys kvs).length
  · refine .inr ⟨⟨atF R2, by rw [← hlen]; exact hlt⟩, fun H3 => ∃ g3 acc accv w3, g1.le g3 ∧ RepL X.K g3 accv acc ∧ acc.length ≤ i + 1 ∧ Rel X.K ((c.lm p od xs).fr D (.lst accv)) g3 w3 H3 ∧ Pv (i + 1) acc w3, fun H3 ⟨g3, acc3, accv3, w3, z⟩ =>
      ⟨(dkeys kvs).length - (i + 1), by omega, rfl, hlt, g3, acc3, accv3, w3, z⟩, fun x H' ⟨e1, ky, v0, e2, e3⟩ => ?_⟩
    subst e1; subst e3
    have hx : (dkeys kvs)[i]? = some (dkeys kvs)[i] := by simp [hlt]
    have r3 : Rep X.K g2 (kV ky) (dkeys kvs)[i] := by
      have hx2 := hx
      unfold dkeys at hx2
      rw [List.getElem?_map] at hx2
      cases qk : kvs[i]? with
      | none => rw [qk] at hx2; cases hx2
      | some kv =>
        rw [qk] at hx2
        obtain ⟨u, h1, h2⟩ := rk.get (k := kv.1) (d := kv.2) qk
        rw [e2] at h1
        cases h1
        rw [← show kD kv.1 = (dkeys kvs)[i] from Option.some.inj hx2]
        exact .ofKey kv.1
    have ew : w0.e = (c.lm p od xs).e := e0
    have Bm : Bx X.K W0 ((c.lm p od xs).fr D (.lst accv)).mute g2 (wipeD env vs) w2.mute (wipe σ vs) H' := ⟨R2.mute, (B.E.le (l1.trans l2)).wipe vs, fun _ _ _ _ _ _ _ _ px => by
      obtain ⟨_, _, _, _, _, _, _, z, _⟩ := px
      exact z⟩
    refine ⟨_, g2, _, _, _, _, Bm, r3, hstep i _ acc w2 hx ha pv, fun env4 w4 σ4 H4 g4 l4 B4 s4 q4 => ⟨?_, ?_⟩⟩
    · have e := s4 vs hsl
      rw [e]
      have ww : ∀ us : List Nat, (∀ i ∈ us, i ∈ vs) → wipe (wipe σ vs) us = wipe σ vs := by
        intro us
        induction us with
        | nil => intro _; rfl
        | cons u us ih =>
          intro hu
          show (wipe (wipe σ vs) us).set u Option.none = wipe σ vs
          rw [ih fun i hi => hu i (List.mem_cons_of_mem _ hi)]
          have hm := hu u List.mem_cons_self
          have key : ∀ ws : List Nat, u ∈ ws → (wipe σ ws).set u none = wipe σ ws := by
            intro ws
            induction ws with
            | nil => intro h; cases h
            | cons v ws ih2 =>
              intro h
              unfold wipe
              by_cases e : u = v
              · subst e; rw [List.set_set]
              · rw [List.set_comm _ _ (Ne.symm e), ih2 ((List.mem_cons.mp h).resolve_left e)]
          exact key vs hm
      exact ww vs fun _ h => h
    · refine bindT B4 q4 fun b H5 g5 w5 l5 B5 q5 => ?_
      have c3 : ∀ {g' : Gh} {w' : W} {H' : Hp}, Rel X.K ((c.lm p od xs).fr D (.lst accv)).mute g' w' H' → Rel X.K ((c.lm p od xs).fr D (.lst accv)) g' (w'.as w0) H' := fun R => R.unmute ew
      cases b with
      | true =>
        refine iteT (bindE B5 q5 fun v H6 g6 w6 y l6 B6 r6 q6 => ?_)
        have R6 := c3 B6.R
        refine ⟨accv, (R6.frm D _ upd_same).1, by have := r2.length; omega, g6, acc ++ [y], accv ++ [v], w6.as w0, ((l2.trans l4).trans l5).trans l6, (r2.le ((l4.trans l5).trans l6)).append (.cons r6 .nil), by rw [List.length_append]; simpa using ha, R6.writeF, q6⟩
      | false => exact iteF ⟨g5, acc, accv, w5.as w0, (l2.trans l4).trans l5, r2.le (l4.trans l5), by omega, c3 B5.R, q5⟩
  · have e : i = (dkeys kvs).length := by omega
    subst e
    refine .inl ⟨⟨atF R2, by rw [hlen]; exact Nat.le_refl _⟩, ?_⟩
    obtain ⟨g3, w3, d3, l3, R3, r3, q3⟩ := hfin (c.lm p od xs) g2 w2 H2 D accv acc _ R2 hF r2 (hd acc w2 pv)
    obtain ⟨h5, R5⟩ := R3.unlockM hFp (rk.le (l2.trans l3))
    exact .inr ⟨p, od, _, h5, nf, k _ _ ⟨g3, _, d3, (l1.trans l2).trans l3, R5, r3, q3⟩⟩
section
variable {X : Cx} {Wv : WX} {elt tg iter : Expr} {ifs : List Expr} {scope : Scope} {own : List (Str × Nat)} {sl : List Nat} {pos : Pos} {ti : DTE} {gd : DTG} {tt : DTT} {te : DTE} {fin : List D → W → DK → Prop}
theorem de_lcMD (hfin : FinOk X.K fin) (hc : X.calm = true) (hN : X.N.Nodup) (hi : DE X Wv iter ti) (ok : blkC X.N X.env.scope scope own = true)
    (hg : ∀ (s : Shared) (H : Hp) (C : Addr) (cl : List (Str × Addr)) (fp : List Addr), DG (X.blk s H scope (compEnvC scope cl C X.env) fp) W0 tg sl gd)
    (ht : ∀ (s : Shared) (H : Hp) (C : Addr) (cl : List (Str × Addr)) (fp : List Addr), DTs (X.blk s H scope (compEnvC scope cl C X.env) fp) W0 ifs tt)
    (he : ∀ (s : Shared) (H : Hp) (C : Addr) (cl : List (Str × Addr)) (fp : List Addr), DE (X.blk s H scope (compEnvC scope cl C X.env) fp) W0 elt te) (hsl : (sl.all fun i => (own.map (·.2)).contains i) = true := by rfl) (hs : ∀ x, foldedSetIterable iter X.env x = pure x := by intro _; rfl) :
    DE X Wv (.ListComp elt [⟨tg, iter, ifs, 0⟩] scope pos) (dLcMD fin ti gd tt te (own.map (·.2))) :=
  ⟨PE_imp (pe_unl (pe_lc hc hN (pi_md hi) (blkOk_by ok) (fun s H C cl fp => (hg s H C cl fp).pg) (fun s H C cl fp => (ht s H C cl fp).pts) (fun s H C cl fp => (he s H C cl fp).pe) hs)) fun σ H Qv h => lcMD_lift hfin (fun i hi => by simpa using List.all_eq_true.mp hsl i hi) h⟩
theorem ds_setLcMD (hfin : FinOk X.K fin) {i : Nat} {y : Str} {py spos : Pos} (hc : X.calm = true) (hN : X.N.Nodup) (hi : DE X Wv iter ti) (ok : blkC X.N X.env.scope scope own = true)
    (hg : ∀ (s : Shared) (H : Hp) (C : Addr) (cl : List (Str × Addr)) (fp : List Addr), DG (X.blk s H scope (compEnvC scope cl C X.env) fp) W0 tg sl gd)
    (ht : ∀ (s : Shared) (H : Hp) (C : Addr) (cl : List (Str × Addr)) (fp : List Addr), DTs (X.blk s H scope (compEnvC scope cl C X.env) fp) W0 ifs tt)
    (he : ∀ (s : Shared) (H : Hp) (C : Addr) (cl : List (Str × Addr)) (fp : List Addr), DE (X.blk s H scope (compEnvC scope cl C X.env) fp) W0 elt te)
    (hy : X.N[i]? = some y := by rfl) (hyl : X.env.scope.names.lookup y = some .local := by rfl) (hsw : swapsWith (.ListComp elt [⟨tg, iter, ifs, 0⟩] scope pos) (some (.Name y py)) spos.line X.env = pure true := by exact sw_true rfl rfl rfl (by decide +kernel))
    (hsl : (sl.all fun i => (own.map (·.2)).contains i) = true := by rfl) (hs : ∀ x, foldedSetIterable iter X.env x = pure x := by intro _; rfl) :
    DS X Wv (.Assign [.Name y py] (.ListComp elt [⟨tg, iter, ifs, 0⟩] scope pos) spos) (dSet i (dLcMD fin ti gd tt te (own.map (·.2)))) :=
  ⟨PS_imp (ps_unl (ps_setLc hc hN hy hyl hsw (pi_md hi) (blkOk_by ok) (fun s H C cl fp => (hg s H C cl fp).pg) (fun s H C cl fp => (ht s H C cl fp).pts) (fun s H C cl fp => (he s H C cl fp).pe) hs)) fun Dv σ H ⟨c, g, env, w, D, B, q, k⟩ =>
    lcMD_lift hfin (fun i hi => by simpa using List.all_eq_true.mp hsl i hi) ⟨c, g, env, w, _, B, q, fun v H1 ⟨g1, w1, d, l1, R1, r1, q1⟩ => k.nx _ w1 _ H1 g1 l1 ((B.step l1 R1).env ((B.E.le l1).set r1)) q1⟩⟩
end
end DL

/-! DLzz: isinstance of what was caught and any number of classes; list + list that will change. -/
namespace DL
open PySem PySem.Spec PyProof.Rows L2
structure EisLs (X : Cx) (Wv : WX) (es : List Expr) (ts : List (List (Str × Bool))) : Prop where
  ex : ∃ Cs : List Addr, Cs.length = ts.length ∧ DA X Wv es (fun _ w Q => Q (Cs.map .ref) w) ∧ ∀ m b a, orT ts m = some b → ClsAt X.K m a → ExcC X.K a ∧ PySem.W.kitAny X.K (.ref a) (Cs.map .ref) = some b
section
variable {X : Cx} {Wv : WX} {n : Str} {p p2 pos tp : Pos} {e : Expr} {es : List Expr} {t : DTE} {tab : List (Str × Bool)} {ts : List (List (Str × Bool))} {kk : Nat}
theorem eisLs_one (I : EisX X.K X.mg n tab) (hg : Gl X n := by rfl) (hd : (n == ("__debug__" : Str)) = false := by decide) (hs : starEach [.Name n p] X.env = (false, eval (.Name n p) X.env) :: starEach [] X.env := by rfl) : EisLs X Wv [.Name n p] [tab] := by
  obtain ⟨C, m1, k1⟩ := I.ex
  refine ⟨[C], rfl, da_cons (de_ref m1 hg hd) da_nil hs, fun m b a h1 h2 => ?_⟩
  simp only [orT, Option.bind_eq_some_iff, Option.map_eq_some_iff] at h1
  obtain ⟨b1, q1, x1, e1, e2⟩ := h1
  obtain ⟨y1, y2⟩ := k1 (m, b1) (lookup_mem q1) a h2
  cases e1
  subst e2
  exact ⟨y1, kit_or y2 rfl⟩
theorem eisLs_cons (I : EisX X.K X.mg n tab) (r : EisLs X Wv es ts) (hg : Gl X n := by rfl) (hd : (n == ("__debug__" : Str)) = false := by decide) (hs : starEach (.Name n p :: es) X.env = (false, eval (.Name n p) X.env) :: starEach es X.env := by rfl) : EisLs X Wv (.Name n p :: es) (tab :: ts) := by
  obtain ⟨C, m1, k1⟩ := I.ex
  obtain ⟨Cs, h0, ha, hk⟩ := r.ex
  refine ⟨C :: Cs, congrArg Nat.succ h0, da_cons (de_ref m1 hg hd) ha hs, fun m b a h1 h2 => ?_⟩
  simp only [orT, Option.bind_eq_some_iff, Option.map_eq_some_iff] at h1
  obtain ⟨b1, q1, x1, e1, e2⟩ := h1
  obtain ⟨y1, y2⟩ := k1 (m, b1) (lookup_mem q1) a h2
  obtain ⟨_, y3⟩ := hk m x1 a e1 h2
  subst e2
  exact ⟨y1, kit_or y2 y3⟩
theorem de_eisLs (r : EisLs X Wv es ts) (hz : Nat.ble ts.length 1000 = true) (hm : X.mg "isinstance" = none) (he : DE X Wv e t) (hg : Gl X "isinstance" := by rfl)
    (hs1 : starEach [e, .Tuple es kk tp] X.env = (false, eval e X.env) :: starEach [.Tuple es kk tp] X.env := by rfl) (hs2 : starEach [.Tuple es kk tp] X.env = (false, eval (.Tuple es kk tp) X.env) :: starEach [] X.env := by rfl) (hpl : (backTo pos (starEach [.Tuple es kk tp] X.env)).any (·.1) = false := by rfl) :
    DE X Wv (.Call (.Name "isinstance" p) [e, .Tuple es kk tp] [] pos) (dEis (orT ts) t) := by
  obtain ⟨Cs, h0, ha, hk⟩ := r.ex
  exact de_eisL (Cs := Cs) hk (by rw [h0, sizeLine_eq]; exact Nat.le_trans (Nat.le_of_ble_eq_true hz) (Nat.le_of_ble_eq_true rfl)) hm he ha hg hs1 hs2 hpl
end
/-! ### list + list, a list that will change -/
def addMD : DR2 := fun x y w Q => match x, y with
  | .lst a, .lst b => a.length + b.length ≤ sizeLine ∧ ∀ p, w.m p = none → Q (.ref p) (w.put p (.lst (a ++ b)))
  | _, _ => False
theorem od_addM {X : Cx} : OpD X (binaryOp .Add) addMD := by
  refine ⟨_, op_catS, fun c g w H x y v u Q Qv R r1 r2 q k => ?_⟩
  cases r1 with
  | lst s1 r1 => cases r2 with
    | lst s2 r2 => exact ⟨_, _, _, _, rfl, rfl, R.sqL s1, R.sqL s2, by rw [r1.length, r2.length]; exact q.1, newM R (r1.append r2) q.2 k⟩
    | _ => exact False.elim q
  | _ => exact False.elim q
end DL

/-! DLzza: list(d.items()). -/
namespace DL
open PySem PySem.Spec PyProof.Rows L2
section
variable {K : PySem.W.Frag} {c : Ck} {g g' : Gh} {w : W} {H H' : Hp}
/-- more in the memory -/
theorem Rel.more (R : Rel K c g w H) (h : ∀ b o, H b = some o → H' b = some o) : Rel K c g w H' where
  imm := fun a u e => (R.imm a u e).imp (fun ⟨x, y⟩ => ⟨x, h _ _ y⟩) (fun ⟨o, x, y⟩ => ⟨o, x, h _ _ y⟩)
  lck := R.lck
  mu := fun a m e => let ⟨h1, h2, h3, o, h4, h5⟩ := R.mu a m e; ⟨h1, h2, h3, o, h _ _ h4, h5⟩
  frm := fun a o e => let ⟨h1, h2, h3⟩ := R.frm a o e; ⟨h _ _ h1, h2, h3⟩
  pen := fun a e => let ⟨h1, xs, h2, h3⟩ := R.pen a e; ⟨h1, xs, h _ _ h2, h3⟩
  ex := R.ex
/-- what lies in the memory and belongs to nobody is one's own, and will not change -/
theorem Rel.own (R : Rel K c g w H') {p : Addr} {u : HO} (hG : g.G p = none) (hm : w.m p = none) (hF : c.F p = none) (hP : g.pm p = false) (hp : H' p = some u) : Rel K c (g.add p u) w H' := by
  have le := Gh.add_le (o := u) hG
  refine ⟨fun a v e => ?_, fun a q e => ?_, fun a m e => ?_, fun a q e => ?_, fun a e => ?_, R.ex⟩
  · by_cases ha : a = p
    · subst ha
      have e' : upd g.G a u a = some v := e
      rw [upd_same] at e'; cases e'
      exact .inl ⟨R.noL hG, hp⟩
    · have e' : upd g.G p u a = some v := e
      rw [upd_ne ha] at e'
      exact R.imm a v e'
  · obtain ⟨u', q⟩ := R.lck a q e
    exact ⟨u', le.G _ _ q⟩
  · obtain ⟨h1, h2, h3, o', h4, h5⟩ := R.mu a m e
    have ha : a ≠ p := fun z => by rw [z, hm] at e; cases e
    exact ⟨by show upd g.G p u a = none; rw [upd_ne ha]; exact h1, h2, h3, o', h4, h5.le le⟩
  · obtain ⟨h1, h2, h3⟩ := R.frm a q e
    have ha : a ≠ p := fun z => by rw [z, hF] at e; cases e
    exact ⟨h1, by show upd g.G p u a = none; rw [upd_ne ha]; exact h2, h3⟩
  · obtain ⟨h1, xs, h2, h3⟩ := R.pen a e
    have ha : a ≠ p := fun z => by have e' : g.pm a = true := e; rw [z, hP] at e'; cases e'
    exact ⟨by show upd g.G p u a = none; rw [upd_ne ha]; exact h1, xs, h2, h3.le le (Nat.le_refl _)⟩
structure Nobody (c : Ck) (g : Gh) (w : W) (p : Addr) : Prop where
  G : g.G p = none
  m : w.m p = none
  F : c.F p = none
  P : g.pm p = false
theorem Rel.nobody (R : Rel K c g w H) {p : Addr} (h : H p = none) : Nobody c g w p := ⟨R.noG h, R.noM h, R.noF h, R.noP h⟩
theorem Nobody.add {p q : Addr} {u : HO} (h : Nobody c g w p) (n : p ≠ q) : Nobody c (g.add q u) w p := ⟨by show upd g.G q u p = none; rw [upd_ne n]; exact h.G, h.m, h.F, h.P⟩
/-- the pairs of a table, each a new tuple -/
theorem Rel.ownPairs : ∀ {ts : List Addr} {kvs : List (Key × V)} {ds : List (Key × D)} {g : Gh}, Rel K c g w H' → Paired (fun (t : Addr) (q : Key × V) => H' t = some (.tup [kV q.1, q.2])) ts kvs → RepK K g kvs ds → (∀ t ∈ ts, Nobody c g w t) → ts.Nodup →
    ∃ g2, g.le g2 ∧ Rel K c g2 w H' ∧ RepL K g2 (ts.map .ref) (ditems ds) ∧ ∀ p, p ∉ ts → Nobody c g w p → Nobody c g2 w p
  | [], kvs, ds, g, R, e, r, _, _ => by
    cases e
    cases r
    exact ⟨g, .rfl, R, .nil, fun _ _ h => h⟩
  | t :: ts, kvs, ds, g, R, e, r, hN, hd => by
    cases e with
    | cons e es =>
    cases r with
    | @cons kk vv _ dd ds a r =>
    have hd := List.nodup_cons.mp hd
    have n0 := hN t List.mem_cons_self
    have le := Gh.add_le (o := .tup [kV kk, vv]) n0.G
    have R1 := R.own n0.G n0.m n0.F n0.P e
    obtain ⟨g2, l2, R2, r2, k2⟩ := Rel.ownPairs R1 es (r.le le) (fun b hb => (hN b (List.mem_cons_of_mem _ hb)).add fun z => hd.1 (z ▸ hb)) hd.2
    refine ⟨g2, le.trans l2, R2, .cons (.tup (.inl (.inl (l2.G _ _ Gh.add_at))) (.cons (.ofKey _) (.cons ((a.le le).le l2) .nil))) r2, fun p hp np => k2 p (fun z => hp (List.mem_cons_of_mem _ z)) (np.add fun z => hp (z ▸ List.mem_cons_self))⟩
end
def rItemsR : V → Hp → VK → Prop := fun x H Q => ∃ (d : Addr) (kvs : List (Key × V)), x = .ref d ∧ Rd H d (.dK kvs) ∧
  ∀ (H' : Hp) (p : Addr) (ts : List Addr), (∀ b o, H b = some o → H' b = some o) → H p = none → (∀ t ∈ ts, H t = none) → p ∉ ts → ts.Nodup → H' p = some (.lst (ts.map V.ref)) → Paired (fun (t : Addr) (q : Key × V) => H' t = some (.tup [kV q.1, q.2])) ts kvs → Q (.ref p) H'
section
variable {X : Cx} {Wv : WX} {e : Expr} {te : TE} {t : DTE} {p apos cpos pos : Pos}
theorem pe_listItems (hc : X.calm = true) (he : PE X e te) (hg : Gl X "list") (hm : X.mg "list" = none) (hv : bootBuiltins "list" = some (.type "list")) (hbase : attributeBase e "items" X.env (eval e X.env) = eval e X.env) (hline : (apos.endLine == cpos.line) = true)
    (hs : starEach [.Call (.Attribute e "items" apos) [] [] cpos] X.env = (false, eval (.Call (.Attribute e "items" apos) [] [] cpos) X.env) :: starEach [] X.env) :
    PE X (.Call (.Name "list" p) [.Call (.Attribute e "items" apos) [] [] cpos] [] pos) fun σ H Q => te σ H fun x H1 => rItemsR x H1 Q := by
  refine ⟨fun pins s σ H Q I hq => ?_⟩
  refine wpAny_Call_Name_kw (ld_blt I hg hm hv ?_)
  refine PyProof.Rows.callWith_type1 ?_ hs rfl
  rw [hs]
  show wpAny _ _ (spliced ((false, eval (.Call (.Attribute e "items" apos) [] [] cpos) X.env) :: backTo pos (starEach [] X.env))) _ _ s
  refine Calls.spliced_cons ?_
  refine wpAny_Call_method (T := "dict") (id := "dict.items") hbase rfl hline F.plainAttrs_dict F.slot_dict_items F.type_dict_items (thn (he.run pins s σ H _ I hq) fun u s1 ⟨x, H1, I1, rx, d, kvs, ex, hd, q⟩ => ?_)
  subst ex
  obtain rfl : u = Value.ref d := rx
  obtain ⟨hz, hs0, vs, kv, hdo⟩ := dk_rd I1.hok hd
  obtain ⟨ep, hat⟩ := hdo.dictAt
  have lk : kvs.length = vs.length := Paired.length kv
  have I2 : Inv X pins σ H1 { s1 with heap := s1.heap.push { cls := .type "dict_items", data := .fields #[.ref d] } } := I1.kept (t' := s1.toks) fun b ob q => Heap.get?_push_of_some _ q
  refine ⟨hdo.typeIs, hdo.mapOf.noDict, ?_⟩
  show wpAny _ _ (callWith cpos (.builtin "dict.items") [.ref d] [] []) _ X.xe s1
  refine method_meetsIn F.slot_dict_items F.entry_dict_items rfl (PySem.evalArgs_none ⟨rfl, hdo.typeIs, F.args_dict_items_1 _, _, meets_dict_items (mixKind X.prog X.w) d hs0, ⟨vs, hdo⟩, ?_⟩)
  refine Calls.spliced_nil ?_
  refine PySem.W.kdx_call (knd := mixKind X.prog X.w) (kvs := vs) (ep := ep) (I1.ok.hd hc) ⟨_, Heap.get?_push_size _ rfl, rfl, rfl⟩ (hat.push _) (by omega) fun h' tk acc c as hk hS hl hG hacc => ?_
  obtain ⟨H', k1, k2, k3, k4, k5, k6, J⟩ := LiI.items_laid (tk := tk) I2 hz kv hk hS hl hG hacc
  exact ⟨.ref _, H', J, rfl, q H' _ as k1 k2 k3 k4 (List.Pairwise.imp (fun {a b} (h : a < b) => Nat.ne_of_lt h) hG.rise) k5 k6⟩
def dListItems (t : DTE) : DTE := fun env w Q => t env w fun x w1 => match x with
  | .dic kvs => Q (.lst (ditems kvs)) w1
  | .ref p => ∃ kvs, w1.m p = some (.dic kvs) ∧ Q (.lst (ditems kvs)) w1
  | _ => False
theorem items_got {K : PySem.W.Frag} {c : Ck} {g : Gh} {w : W} {H : Hp} {xs : List (Key × V)} {ds : List (Key × D)} {Q : DK} {Qv : VK} (R : Rel K c g w H) (r : RepK K g xs ds) (q : Q (.lst (ditems ds)) w) (k : ∀ v H', PQ K c g Q v H' → Qv v H') :
    ∀ (H' : Hp) (p : Addr) (ts : List Addr), (∀ b o, H b = some o → H' b = some o) → H p = none → (∀ t ∈ ts, H t = none) → p ∉ ts → ts.Nodup → H' p = some (.lst (ts.map V.ref)) → Paired (fun (t : Addr) (q : Key × V) => H' t = some (.tup [kV q.1, q.2])) ts xs → Qv (.ref p) H' := by
  intro H' p ts hk hp ht hpt nd e1 e2
  obtain ⟨g2, l2, R2, r2, k2⟩ := Rel.ownPairs (R.more hk) e2 r (fun t h => R.nobody (ht t h)) nd
  have np := k2 p hpt (R.nobody hp)
  have l3 := Gh.add_le (o := .lst (ts.map V.ref)) np.G
  exact k _ _ ⟨_, w, .lst (ditems ds), l2.trans l3, R2.own np.G np.m np.F np.P e1, .lst (.inl (.inl Gh.add_at)) (r2.le l3), q⟩
theorem de_list_items (hc : X.calm = true) (hm : X.mg "list" = none) (he : DE X Wv e t) (hg : Gl X "list" := by rfl) (hv : bootBuiltins "list" = some (.type "list") := by decide +kernel) (hbase : attributeBase e "items" X.env (eval e X.env) = eval e X.env := by rfl) (hline : (apos.endLine == cpos.line) = true := by rfl)
    (hs : starEach [.Call (.Attribute e "items" apos) [] [] cpos] X.env = (false, eval (.Call (.Attribute e "items" apos) [] [] cpos) X.env) :: starEach [] X.env := by rfl) :
    DE X Wv (.Call (.Name "list" p) [.Call (.Attribute e "items" apos) [] [] cpos] [] pos) (dListItems t) :=
  ⟨PE_imp (pe_listItems hc he.pe hg hm hv hbase hline hs) fun σ H Qv ⟨c, g, env, w, Q, B, q, k⟩ => bindE B q fun v H1 g1 w1 x l1 B1 r1 q1 => by
    cases r1 with
    | dic s r => exact ⟨_, _, rfl, B1.R.rdK s, items_got B1.R r q1 fun v H' z => k v H' (z.up l1)⟩
    | ref a =>
      obtain ⟨kvs, em, q2⟩ := q1
      obtain ⟨vs, e1, r⟩ := B1.R.mdic em
      exact ⟨_, _, rfl, .inl e1, items_got B1.R r q2 fun v H' z => k v H' (z.up l1)⟩
    | _ => exact False.elim q1⟩
end
/-- a maker by what is known of its code object and its table -/
abbrev mkrOf {K : PySem.W.Frag} {c0 P : Addr} (n : Str) (_ : PySem.W.codeHdIn K c0 P = true) : Mkr := (n, c0, P)
end DL

/-! DLzzb: a tuple's items the other way round. -/
namespace DL
open PySem PySem.Spec PyProof.Rows L2
theorem back_pick (xs : Array Value) : ((List.range xs.size).filterMap fun (k : Nat) => xs[((xs.size : Int) - 1 + (k : Int) * -1).toNat]?).toArray = xs.toList.reverse.toArray := by
  congr 1
  have key : ∀ n, n ≤ xs.size → (List.range n).filterMap (fun (k : Nat) => xs[((xs.size : Int) - 1 + (k : Int) * -1).toNat]?) = xs.toList.reverse.take n := by
    intro n
    induction n with
    | zero => intro _; rfl
    | succ n ih =>
      intro h
      have e : ((xs.size : Int) - 1 + (n : Int) * -1).toNat = xs.size - 1 - n := by omega
      have lt : n < xs.toList.reverse.length := by rw [List.length_reverse, Array.length_toList]; omega
      rw [List.range_succ, List.filterMap_append, ih (by omega), List.take_succ]
      congr 1
      have g : xs[xs.size - 1 - n]? = xs.toList.reverse[n]? := by
        rw [List.getElem?_reverse (by rw [Array.length_toList]; omega), Array.length_toList, Array.getElem?_toList]
      simp only [List.filterMap_cons, List.filterMap_nil, e, g]
      rw [List.getElem?_eq_getElem lt]
      rfl
  rw [key _ (Nat.le_refl _), List.take_of_length_le (by rw [List.length_reverse, Array.length_toList]; exact Nat.le_refl _)]
section
variable {prog : Program} {w : World} {A : Around} {E : Value → Shared → Prop} {s : Shared}
theorem sliceApplied_back {sl : Addr} {n : Nat} {u : Tok} {Q : Int × Int × Nat → Shared → Prop} (hs : s.heap.IsSliceOf sl .none .none (.int (-1) u)) (h : Q ((n : Int) - 1, -1, n) s) :
    wpAny (model prog w) A (Builtin.Slice.sliceApplied (.ref sl) (pure (n : Int))) Q E s := by
  obtain ⟨os, hos, hcs, hds⟩ := id hs
  unfold Builtin.Slice.sliceApplied Builtin.Slice.sliceFields
  refine wpAny_bind (wpAny_bind (wpAny_field hos hds (x := .none) rfl (wpAny_bind (wpAny_field hos hds (x := .none) rfl (wpAny_bind (wpAny_field hos hds (x := .int (-1) u) rfl (wpAny_pure ?_)))))))
  refine wpAny_bind (slicePart_int ?_)
  show wpAny _ _ (if ((-1 : Int) == 0) = true then _ else _) _ _ s
  rw [if_neg (by decide)]
  refine wpAny_bind (slicePart_none (wpAny_bind (slicePart_none (wpAny_bind (wpAny_pure ?_)))))
  have ea : Builtin.Slice.sliceAdjust none none (-1) (n : Int) = ((n : Int) - 1, -1) := rfl
  have ep : Builtin.Slice.slicePlaces ((n : Int) - 1) (-1) (-1) = n := by
    unfold Builtin.Slice.slicePlaces
    rw [if_neg (by omega), show (- -1 : Int) = 1 from rfl, Int.ediv_one]
    split <;> omega
  show wpAny _ _ (match Builtin.Slice.sliceAdjust none none (-1) (n : Int) with | (lo, hi) => pure (lo, (-1 : Int), Builtin.Slice.slicePlaces lo hi (-1))) _ _ s
  rw [ea]
  show wpAny _ _ (pure ((n : Int) - 1, (-1 : Int), Builtin.Slice.slicePlaces ((n : Int) - 1) (-1) (-1))) _ _ s
  rw [ep]
  exact wpAny_pure h
theorem getItem_tuple_back {t sl : Addr} {items : Array Value} {u : Tok} {Q : Value → Shared → Prop} (ht : IsTup s.heap t items) (hs : s.heap.IsSliceOf sl .none .none (.int (-1) u))
    (h : Q (.ref s.heap.objs.size) { s with heap := s.heap.push { cls := .type "tuple", data := .seq items.toList.reverse.toArray } })
    (hsz : items.size ≤ sizeLine) : wpAny (model prog w) A (getItem (.ref t) (.ref sl)) Q E s := by
  have hdrop : sizeOk (.seq items.toList.reverse.toArray) := by
    show items.toList.reverse.toArray.size ≤ sizeLine
    rw [List.size_toArray, List.length_reverse, Array.length_toList]
    exact hsz
  obtain ⟨os, hos, hcs, hds⟩ := id hs
  have hTs : s.TypeIs (.ref sl) "slice" := ⟨os, hos, hcs⟩
  unfold getItem
  try with_reducible refine wpAny_holding ?_
  first | refine wpAny_bind (wpAny_pure ?_) | skip
  refine wpAny_bind (wpAny_sequenceKey ht.typeIs (by decide) ?_)
  refine wpAny_bind (wpAny_callSpecial?_slot (name := Str.ofString "__getitem__") ht.typeIs PyProof.Rows.slot_tuple_getitem
    (wpAny_call_entry PyProof.Rows.slot_tuple_getitem ht.typeIs PyProof.Rows.entry_tuple_getitem ?_ (PyProof.Rows.args_tuple_getitem _ _)))
  show wpAny _ _ (Builtin.Tuple.tupleItemsOf (.ref t) >>= _) _ _ s
  refine wpAny_bind (tupleItemsOf_ ht ?_)
  refine wpAny_bind (wpAny_typeOf hTs ?_)
  rw [if_pos (by decide)]
  refine wpAny_bind (sliceApplied_back hs ?_)
  have hno : ¬ (((items.size : Int) - 1 == 0 && (-1 : Int) == 1 && items.size == items.size) = true) := by
    have : ((-1 : Int) == 1) = false := by decide
    rw [this]; simp
  show wpAny _ _ (if ((items.size : Int) - 1 == 0 && (-1 : Int) == 1 && items.size == items.size) = true then _ else _) _ _ s
  rw [if_neg hno, back_pick items]
  first
    | exact wpAny_bind (m := Builtin.Tuple.tupleExact _) (wpAny_newObj_type (wpAny_pure ⟨_, rfl, wpAny_pure h⟩) hdrop)
    | exact wpAny_bind (m := Builtin.Tuple.tupleExact _) (wpAny_newObj_type (wpAny_bind (wpAny_pure (wpAny_pure ⟨_, rfl, wpAny_pure h⟩))) hdrop)
    | exact wpAny_bind (wpAny_bind (m := Builtin.Tuple.tupleExact _) (wpAny_newObj_type (wpAny_pure (wpAny_pure ⟨_, rfl, wpAny_pure h⟩)) hdrop))
    | exact wpAny_bind (wpAny_bind (m := Builtin.Tuple.tupleExact _) (wpAny_newObj_type (wpAny_pure ⟨_, rfl, wpAny_pure h⟩) hdrop))
end
section
variable {X : Cx} {Wv : WX}
theorem pe_revT {e : Expr} {te : TE} {k : Nat} {p1 p2 p3 pos : Pos} (he : PE X e te) : PE X (.Subscript e (.Slice none none (some (.UnaryOp .USub (.Constant (.int 1) k p1) p2)) p3) pos) fun σ H Q => te σ H fun x H1 => ∃ a xs, x = .ref a ∧ SqT X.K H1 a xs ∧ ∀ p, H1 p = none → Q (.ref p) (upd H1 p (.tup xs.reverse)) := by
  refine ⟨fun pins s σ H Q I h => ?_⟩
  refine Subscript_ (thn (he.run pins s σ H _ I h) fun v s1 ⟨x, H1, I1, r1, q1⟩ => ?_)
  obtain ⟨a, xs, ex, hx, q⟩ := q1
  subst ex
  cases r1
  have hst : PO X (some (.UnaryOp .USub (.Constant (.int 1) k p1) p2)) (tPart (tUn (rU fun i => .int (-i)) (tC (.int 1)))) := po_some (pe_un un_neg pe_int)
  refine wpAny_Slice (thn (po_none.run pins s1 σ H1 (fun o H2 => o = none ∧ H2 = H1) I1 ⟨rfl, rfl⟩) fun vl s2 ⟨l, H2, I2, pl, el, e2⟩ => ?_)
  subst el e2
  refine thn (po_none.run pins s2 σ H2 (fun o H3 => o = none ∧ H3 = H2) I2 ⟨rfl, rfl⟩) fun vu s3 ⟨u, H3, I3, pu, eu, e3⟩ => ?_
  subst eu e3
  refine thn (hst.run pins s3 σ H3 (fun o H4 => o = some (-1) ∧ H4 = H3) I3 ⟨1, rfl, -1, rfl, rfl, rfl⟩) fun vs s4 ⟨o, H4, I4, ps, eo, e4⟩ => ?_
  subst eo e4
  have I5 : Inv X pins σ H4 { s4 with heap := s4.heap.push { cls := .type "slice", data := .fields #[vl, vu, vs] } } := I4.kept (t' := s4.toks) fun b ob q => Heap.get?_push_of_some _ q
  obtain ⟨its, r, ht, hz⟩ := I5.tuple hx
  have hlen := r.length
  obtain rfl : vl = .none := by cases pl; rfl
  obtain rfl : vu = .none := by cases pu; rfl
  obtain ⟨t, rfl⟩ : ∃ t, vs = .int (-1) t := by cases ps; exact ⟨_, rfl⟩
  show wpAny (model X.prog X.w) X.A (subscriptTail e (.Slice none none (some (.UnaryOp .USub (.Constant (.int 1) k p1) p2)) p3) (.ref a) (.ref s4.heap.objs.size)) (EP X pins σ Q) X.xe { s4 with heap := s4.heap.push { cls := .type "slice", data := .fields #[.none, .none, .int (-1) t] } }
  refine tail_any (ops := [.ref a, .ref s4.heap.objs.size]) ht.typeIs (PyProof.Rows.slot_tuple_getitem.lookup) ?_ (by with_unfolding_all rfl)
  refine getItem_tuple_back ht (Heap.IsSliceOf.new _ _ _ _) ?_ (by rw [List.size_toArray]; omega)
  refine ⟨.ref _, _, I5.laid (t' := s4.toks) (o := .tup xs.reverse) (fun b ob q => Heap.get?_push_of_some _ q) (Nat.le_refl _) ?_, rfl, q _ (I5.hok.fresh (Nat.le_refl _))⟩
  exact ⟨by rw [List.length_reverse]; exact hz, _, r.reverse, IsTup.new _ _⟩
def dRevT (t : DTE) : DTE := fun env w Q => t env w fun x w1 => match x with
  | .tup xs => Q (.tup xs.reverse) w1
  | _ => False
theorem de_revT {e : Expr} {te : DTE} {k : Nat} {p1 p2 p3 pos : Pos} (he : DE X Wv e te) : DE X Wv (.Subscript e (.Slice none none (some (.UnaryOp .USub (.Constant (.int 1) k p1) p2)) p3) pos) (dRevT te) :=
  ⟨PE_imp (pe_revT he.pe) fun σ H Qv ⟨c, g, env, w, Q, B, q, k⟩ => bindE B q fun v H1 g1 w1 x l1 B1 r1 q1 => by
    cases r1 with
    | tup s r => exact ⟨_, _, rfl, B1.R.sqT s, newT B1.R r.reverse q1 fun v H' z => k v H' (z.up l1)⟩
    | _ => exact False.elim q1⟩
end
end DL

namespace DL
open PySem PySem.Spec PyProof.Rows L2
def spPen : DSp := fun ds w Q => match ds with
  | [.lst xs] => ∃ ns, intsOf xs = some ns ∧ ns.length ≤ 63 ∧ w.n = 0 ∧ Q .pen w
  | _ => False
theorem mod_b (x m : Int) (h : 0 < m) : 0 ≤ x % m ∧ x % m < m := ⟨Int.emod_nonneg x (by omega), Int.emod_lt_of_pos x h⟩
theorem cmul_mod {x m y : Int} (h : 0 < m := by decide) (h2 : m ≤ 2 ^ 64 := by decide) : CMul (x % m) y := by
  have := mod_b x m h
  exact .inl ⟨by omega, by omega⟩
theorem cmul_l {x y : Int} (h : -(2 ^ 64) < x := by decide) (h2 : x < 2 ^ 64 := by decide) : CMul x y := .inl ⟨h, h2⟩
theorem mul_b {a b A B : Int} (h0 : 0 ≤ a) (h1 : a ≤ A) (h2 : 0 ≤ b) (h3 : b ≤ B) : 0 ≤ a * b ∧ a * b ≤ A * B :=
  ⟨Int.mul_nonneg h0 h2, Int.mul_le_mul h1 h3 h2 (by omega)⟩
theorem cp1 {c i : Int} (h0 : 0 ≤ i) (h1 : i < 2 ^ 31) : CPow (c % 1000000021 * (i + 5) + 88001 * i + 41) 3 := by
  have a := mod_b c 1000000021 (by decide)
  have b := mul_b (A := 1000000021) (B := 2147483652) a.1 (by omega) (show 0 ≤ i + 5 by omega) (by omega)
  exact ⟨by decide, by decide, by omega⟩
theorem cp2 {x c i : Int} (h0 : 0 ≤ i) (h1 : i < 2 ^ 31) : CPow (x % 2147483587 * (i + 9) + c % 65537 + 3) 5 := by
  have a := mod_b x 2147483587 (by decide)
  have a2 := mod_b c 65537 (by decide)
  have b := mul_b (A := 2147483587) (B := 2147483656) a.1 (by omega) (show 0 ≤ i + 9 by omega) (by omega)
  exact ⟨by decide, by decide, by omega⟩
theorem nn_next {x y z : Int} : 0 ≤ (x % 2147483549 * 2147483587 + y % 2147483563) * 2147483563 + z % 2147483587 := by
  have a := mod_b x 2147483549 (by decide)
  have b := mod_b y 2147483563 (by decide)
  have c := mod_b z 2147483587 (by decide)
  omega
theorem ints_mem {xs : List D} {ns : List Int} {d : D} (h : intsOf xs = some ns) (m : d ∈ xs) : ∃ c, d = .int c := by
  induction xs generalizing ns with
  | nil => cases m
  | cons x r ih =>
    cases x <;> simp only [intsOf, Option.map_eq_some_iff, reduceCtorEq] at h
    obtain ⟨bs, e1, rfl⟩ := h
    cases m with
    | head => exact ⟨_, rfl⟩
    | tail _ m => exact ih e1 m
theorem ints_len {xs : List D} {ns : List Int} (h : intsOf xs = some ns) : xs.length = ns.length := by
  induction xs generalizing ns with
  | nil => cases h; rfl
  | cons x r ih =>
    cases x <;> simp only [intsOf, Option.map_eq_some_iff, reduceCtorEq] at h
    obtain ⟨bs, e1, rfl⟩ := h
    simp [ih e1]
theorem ints_take {xs : List D} {ns : List Int} (n : Nat) (h : intsOf xs = some ns) : intsOf (xs.take n) = some (ns.take n) := by
  induction xs generalizing ns n with
  | nil => cases h; simp [intsOf]
  | cons x r ih =>
    cases x <;> simp only [intsOf, Option.map_eq_some_iff, reduceCtorEq] at h
    obtain ⟨bs, e1, rfl⟩ := h
    cases n with
    | zero => rfl
    | succ n => simp [intsOf, ih n e1]

end DL
namespace DL
open PySem PySem.Spec PyProof.Rows L2
def plainD : D → Bool
  | .non | .bl _ | .int _ | .lst _ | .tup _ | .dic _ => true
  | .str x => decide (x.length ≤ sizeLine)
  | _ => false
def letters : Str := "abcdefghijklmnopqrstuvwxyz"
def digits : Str := "0123456789"
def alnum : Str := "abcdefghijklmnopqrstuvwxyz0123456789"
theorem ealn : letters ++ digits = alnum := by decide +kernel
def wordS (x : Str) : Bool := decide (1 ≤ x.length) && decide (x.length ≤ 8) && (match x.cps.toList.head? with | some c => decide (c ∈ letters.cps.toList) | none => false) && x.cps.toList.all fun c => decide (c ∈ alnum.cps.toList)
def isWord : D → Bool
  | .str x => wordS x
  | _ => false

end DL
namespace DL
open PySem PySem.Spec PyProof.Rows L2
mutual
/-- data through and through -/
def pl : D → Bool
  | .non | .bl _ | .int _ => true
  | .str x => decide (x.length ≤ sizeLine)
  | .lst xs | .tup xs => plL xs
  | .dic kvs => plK kvs
  | _ => false
def plL : List D → Bool
  | [] => true
  | x :: r => pl x && plL r
def plK : List (Key × D) → Bool
  | [] => true
  | (k, x) :: r => (match k with | .inl _ => true | .inr s => decide (s.length ≤ sizeLine)) && pl x && plK r
end
def isPair : D → Bool
  | .tup xs => decide ((xs.length : Int) = 2)
  | _ => false
def isKey (kvs : List (Key × D)) : D → Bool
  | .str x => (valD kvs (.inr x)).isSome
  | _ => false
def wayGo (kvs : List (Key × D)) : Nat → Str → List Str
  | 0, s => [s]
  | n + 1, s => s :: (match valD kvs (.inr s) with | some (.str y) => wayGo kvs n y | _ => [])
def wayOut (kvs : List (Key × D)) (s : Str) : List Str := wayGo kvs kvs.length s
/-- every parent is a scope -/
def Closed (kvs : List (Key × D)) : Prop := ∀ s d, valD kvs (.inr s) = some d → d = .non ∨ ∃ y, d = .str y ∧ (valD kvs (.inr y)).isSome = true
theorem atI_last {α : Type} (xs : List α) (a : α) : atI (xs ++ [a]) (-1) = some a := by
  unfold atI ixN
  simp only [List.length_append, List.length_singleton]
  rw [if_neg (by decide), if_pos (by omega)]
  show (xs ++ [a])[(-1 + ((xs.length + 1 : Nat) : Int)).toNat]? = some a
  have e : (-1 + ((xs.length + 1 : Nat) : Int)).toNat = xs.length := by omega
  rw [e]
  simp
theorem pl_plain {d : D} (h : pl d = true) : plainD d = true := by
  cases d <;> first | rfl | exact h | (unfold pl at h; cases h)
theorem plK_key {kvs : List (Key × D)} (h : plK kvs = true) {k : Key} {d : D} (m : (k, d) ∈ kvs) : pl (kD k) = true ∧ pl d = true := by
  induction kvs with
  | nil => cases m
  | cons x r ih =>
    obtain ⟨k', d'⟩ := x
    unfold plK at h
    simp only [Bool.and_eq_true] at h
    obtain ⟨⟨h1, h2⟩, h3⟩ := h
    rcases List.mem_cons.mp m with e | e
    · cases e
      refine ⟨?_, h2⟩
      cases k with
      | inl i => rfl
      | inr s => unfold kD pl; exact h1
    · exact ih h3 e
theorem mem_dkeys {kvs : List (Key × D)} {x : D} (h : x ∈ dkeys kvs) : ∃ k d, (k, d) ∈ kvs ∧ x = kD k := by
  obtain ⟨kv, hm, e⟩ := List.mem_map.mp h
  exact ⟨kv.1, kv.2, hm, e.symm⟩
theorem mem_dvals {kvs : List (Key × D)} {x : D} (h : x ∈ dvals kvs) : ∃ k, (k, x) ∈ kvs := by
  obtain ⟨kv, hm, e⟩ := List.mem_map.mp h
  subst e
  exact ⟨kv.1, hm⟩
def isNon : D → Bool
  | .non => true
  | _ => false
def nonAt (kvs : List (Key × D)) : D → Bool
  | .str s => (match valD kvs (.inr s) with | some .non => true | _ => false)
  | _ => false
def rootsOf (kvs : List (Key × D)) : List D := (dkeys kvs).filter (nonAt kvs)
def endsAt (kvs : List (Key × D)) : D → Bool
  | .str s => (match (wayOut kvs s).getLast?, (rootsOf kvs).head? with | some a, some (.str b) => decide (a = b) | _, _ => false)
  | _ => false
def isTree : D → Bool
  | .dic kvs => (dkeys kvs).all isWord && ((dvals kvs).all (fun d => isNon d || isKey kvs d) && (decide (((rootsOf kvs).length : Int) = 1) && (dkeys kvs).all (endsAt kvs)))
  | _ => false
theorem all_id {xs : List D} {p : D → Bool} : (xs.map p).all id = xs.all p := by
  rw [List.all_map]; rfl
theorem isTree_dic (kvs : List (Key × D)) : isTree (.dic kvs) = ((dkeys kvs).all isWord && ((dvals kvs).all (fun d => isNon d || isKey kvs d) && (decide (((rootsOf kvs).length : Int) = 1) && (dkeys kvs).all (endsAt kvs)))) := rfl
theorem isWord_str {d : D} (h : isWord d = true) : ∃ s, d = .str s := by
  cases d <;> first | exact ⟨_, rfl⟩ | cases h
/-- keys that are words, values that are None or keys -/
structure TreeLike (kvs : List (Key × D)) : Prop where
  keys : ∀ x ∈ dkeys kvs, ∃ s, x = .str s ∧ (valD kvs (.inr s)).isSome = true
  closed : Closed kvs
theorem TreeLike.of {kvs : List (Key × D)} (h1 : (dkeys kvs).all isWord = true) (h2 : ((dvals kvs).all fun d => isNon d || isKey kvs d) = true) : TreeLike kvs := by
  refine ⟨fun x hx => ?_, fun s d hd => ?_⟩
  · obtain ⟨s, rfl⟩ := isWord_str (List.all_eq_true.mp h1 x hx)
    obtain ⟨k, v, hm, e⟩ := mem_dkeys hx
    have ek : k = .inr s := by
      cases k with
      | inl i => cases e
      | inr t => cases e; rfl
    subst ek
    obtain ⟨d, hd⟩ := valD_mem hm
    exact ⟨s, rfl, by rw [hd]; rfl⟩
  · have hm := valD_in hd
    have q := List.all_eq_true.mp h2 d (List.mem_map.mpr ⟨_, hm, rfl⟩)
    rw [Bool.or_eq_true] at q
    rcases q with q | q
    · cases d <;> first | exact .inl rfl | cases q
    · cases d <;> first | exact .inr ⟨_, rfl, q⟩ | cases q
theorem wayGo_ne {kvs : List (Key × D)} {n : Nat} {s : Str} : wayGo kvs n s ≠ [] := by
  cases n <;> (unfold wayGo; simp)
theorem way_last (kvs : List (Key × D)) (s : Str) : ∃ a, (wayOut kvs s).getLast? = some a ∧ atI ((wayOut kvs s).map D.str) (-1) = some (.str a) := by
  have ne : wayOut kvs s ≠ [] := wayGo_ne
  refine ⟨(wayOut kvs s).getLast ne, List.getLast?_eq_some_getLast ne, ?_⟩
  have e := List.dropLast_concat_getLast ne
  have e2 : (wayOut kvs s).map D.str = ((wayOut kvs s).dropLast).map D.str ++ [.str ((wayOut kvs s).getLast ne)] := by
    rw [← List.map_singleton, ← List.map_append, e]
  rw [e2]
  exact atI_last _ _
def isWords : D → Bool
  | .lst xs => xs.all isWord
  | .tup xs => xs.all isWord
  | _ => false
theorem plL_mem {xs : List D} (h : plL xs = true) {x : D} (m : x ∈ xs) : pl x = true := by
  induction xs with
  | nil => cases m
  | cons y r ih =>
    unfold plL at h
    rw [Bool.and_eq_true] at h
    rcases List.mem_cons.mp m with e | e
    · rw [e]; exact h.1
    · exact ih h.2 e
/-- a binding's value: (scope, word) -/
def isBnd (scopes : List (Key × D)) : D → Bool
  | .tup [s, x] => isKey scopes s && isWord x
  | _ => false
def namesPairs (kvs : List (Key × D)) : Bool := (ditems kvs).all fun p => match p with | .tup [k, v] => isWord k && isPair v | _ => false
def areBnds (scopes : List (Key × D)) : D → Bool
  | .dic kvs => namesPairs kvs && (dvals kvs).all (isBnd scopes)
  | _ => false
theorem areBnds_dic (scopes kvs : List (Key × D)) : areBnds scopes (.dic kvs) = (namesPairs kvs && (dvals kvs).all (isBnd scopes)) := rfl
theorem isPair_tup {d : D} (h : isPair d = true) : ∃ a b, d = .tup [a, b] := by
  cases d with
  | tup xs =>
    have e : ((xs.length : Int) = 2) := of_decide_eq_true h
    match xs, e with
    | [a, b], _ => exact ⟨a, b, rfl⟩
    | [], e => simp at e
    | [_], e => simp at e
    | _ :: _ :: _ :: _, e => simp at e; omega
  | _ => cases h
theorem mem_ditems {kvs : List (Key × D)} {x : D} (h : x ∈ ditems kvs) : ∃ k d, (k, d) ∈ kvs ∧ x = .tup [kD k, d] := by
  obtain ⟨kv, hm, e⟩ := List.mem_map.mp h
  exact ⟨kv.1, kv.2, hm, e.symm⟩
theorem pl_pair {a b : D} (h : pl (.tup [a, b]) = true) : pl a = true ∧ pl b = true := by
  unfold pl at h
  exact ⟨plL_mem h (by simp), plL_mem h (by simp)⟩
theorem memS_str {b : Str} {ys : List Str} : DL.memS (.str b) (ys.map D.str) = decide (b ∈ ys) := by
  unfold DL.memS
  induction ys with
  | nil => rfl
  | cons y r ih =>
    rw [List.map_cons, List.any_cons, ih]
    have e : DL.eqS (.str y) (.str b) = decide (y = b) := rfl
    rw [e]
    by_cases h : y = b
    · subst h; simp
    · rw [decide_eq_false h, Bool.false_or]
      have : (b ∈ y :: r) ↔ b ∈ r := by
        rw [List.mem_cons]
        exact ⟨fun z => z.elim (fun e => absurd e.symm h) id, .inr⟩
      exact decide_eq_decide.mpr this.symm
theorem scal_strs (ys : List Str) : (ys.map D.str).all scalD = true := by
  rw [List.all_map]
  exact List.all_eq_true.mpr fun _ _ => rfl
def keysBoth (scopes bnds : List (Key × D)) : D → Bool
  | .tup [s, t] => isKey scopes s && isKey bnds t
  | _ => false
def useOk (scopes bnds : List (Key × D)) : D → Bool
  | .tup [.str s, .str t] => (match valD bnds (.inr t) with | some (.tup [.str b, _]) => decide (b ∈ wayOut scopes s) | _ => false)
  | _ => false
def areUses (scopes bnds : List (Key × D)) : D → Bool
  | .dic kvs => namesPairs kvs && ((dvals kvs).all (keysBoth scopes bnds) && (dvals kvs).all (useOk scopes bnds))
  | _ => false
theorem areUses_dic (scopes bnds kvs : List (Key × D)) : areUses scopes bnds (.dic kvs) = (namesPairs kvs && ((dvals kvs).all (keysBoth scopes bnds) && (dvals kvs).all (useOk scopes bnds))) := rfl
theorem isKey_str {kvs : List (Key × D)} {d : D} (h : isKey kvs d = true) : ∃ s, d = .str s ∧ (valD kvs (.inr s)).isSome = true := by
  cases d with
  | str s => exact ⟨s, rfl, h⟩
  | _ => cases h
theorem bnd_at {scopes bnds : List (Key × D)} (h : areBnds scopes (.dic bnds) = true) {t : Str} {d : D} (e : valD bnds (.inr t) = some d) : ∃ b x, d = .tup [.str b, x] ∧ (valD scopes (.inr b)).isSome = true ∧ isWord x = true := by
  rw [areBnds_dic, Bool.and_eq_true] at h
  have q := List.all_eq_true.mp h.2 d (List.mem_map.mpr ⟨_, valD_in e, rfl⟩)
  have q1 := List.all_eq_true.mp h.1 _ (List.mem_map.mpr ⟨_, valD_in e, rfl⟩)
  have q1 : (isWord (.str t) && isPair d) = true := q1
  rw [Bool.and_eq_true] at q1
  obtain ⟨a, x, rfl⟩ := isPair_tup q1.2
  have q : (isKey scopes a && isWord x) = true := q
  rw [Bool.and_eq_true] at q
  obtain ⟨b, rfl, hb⟩ := isKey_str q.1
  exact ⟨b, x, rfl, hb, q.2⟩
theorem tree_dic {d : D} (h : isTree d = true) : ∃ sc, d = .dic sc ∧ TreeLike sc := by
  cases d with
  | dic sc =>
    rw [isTree_dic, Bool.and_eq_true, Bool.and_eq_true] at h
    exact ⟨sc, rfl, .of h.1 h.2.1⟩
  | _ => cases h
theorem bnds_dic {sc : List (Key × D)} {d : D} (h : areBnds sc d = true) : ∃ bn, d = .dic bn := by
  cases d with
  | dic bn => exact ⟨bn, rfl⟩
  | _ => cases h
theorem uses_dic {sc bn : List (Key × D)} {d : D} (h : areUses sc bn d = true) : ∃ us, d = .dic us := by
  cases d with
  | dic us => exact ⟨us, rfl⟩
  | _ => cases h
def hasKey (kvs : List (Key × D)) (x : D) : Bool := match keyOf x with
  | some k => (valD kvs k).isSome
  | none => false
def isProg (s b u o r : D) : Bool := match s, b, u, o with
  | .dic sc, .dic bn, .dic us, .dic os => isTree s && (areBnds sc b && (areUses sc bn u && (areBnds sc o && (isWords r && !(dkeys os).any (hasKey us)))))
  | _, _, _, _ => false
def smallD (d : D) : Prop := (∀ kvs, d = .dic kvs → kvs.length < sizeLine) ∧ ∀ xs, d = .lst xs ∨ d = .tup xs → xs.length ≤ sizeLine
theorem isProg_no {s b u o r : D} (h : isTree s = false ∨ (∃ sc, s = .dic sc ∧ (areBnds sc b = false ∨ areBnds sc o = false ∨ ∃ bn, b = .dic bn ∧ areUses sc bn u = false)) ∨ isWords r = false) : isProg s b u o r = false := by
  cases s <;> try rfl
  cases b <;> try rfl
  cases u <;> try rfl
  cases o <;> try rfl
  unfold isProg
  dsimp only
  rcases h with h | ⟨sc, e, h⟩ | h
  · rw [h]; rfl
  · cases e
    rcases h with h | h | ⟨bn, e, h⟩
    · rw [h]; simp
    · rw [h]; simp
    · cases e; rw [h]; simp
  · rw [h]; simp
theorem any_bl {xs : List D} (p : D → Bool) {Q : DK} {w : W} (q : Q (.bl (xs.any p)) w) : anyR [.lst (xs.map fun x => .bl (p x))] w Q := ⟨⟨_, all_map _ _, by
  have e : (xs.map p).any id = xs.any p := by rw [List.any_map]; rfl
  rw [e]; exact q⟩⟩
theorem putFD_le {f : Str} {d : D} {k : Nat} : ∀ {fs : List (Str × D)}, fs.length ≤ k → (putFD f d fs).length ≤ k + 1
  | [], _ => Nat.succ_le_succ (Nat.zero_le k)
  | (g, x) :: r, h => by
    unfold putFD
    split
    · exact Nat.le_succ_of_le h
    · cases k with
      | zero => simp at h
      | succ k => exact Nat.succ_le_succ (putFD_le (k := k) (fs := r) (by simpa using h))
def keyStr : Key → Str
  | .inr s => s
  | .inl _ => Str.empty
def strKeys (kvs : List (Key × D)) : Prop := ∃ ss : List Str, kvs.map (·.1) = ss.map Sum.inr ∧ ss.Nodup
def ascD (kvs : List (Key × D)) : List (Key × D) := (sortT (kvs.map fun kv => keyStr kv.1)).map fun s => (Sum.inr s, (valD kvs (.inr s)).getD .non)
theorem strKeys_eq {kvs : List (Key × D)} {ss : List Str} (h : kvs.map (·.1) = ss.map Sum.inr) : (kvs.map fun kv => keyStr kv.1) = ss := by
  have e := congrArg (List.map keyStr) h
  rw [List.map_map, List.map_map] at e
  have e2 : ss.map (keyStr ∘ Sum.inr) = ss := by
    rw [show (keyStr ∘ (Sum.inr : Str → Key)) = id from rfl, List.map_id]
  rw [e2] at e
  exact e
def progFs (sc bn us os : List (Key × D)) (ss : List Str) : List (Str × D) :=
  [("parents", .dic (ascD sc)), ("declared", .dic (ascD bn)), ("targets", .dic (ascD us)), ("outside", .dic (ascD os)), ("blocked", .tup ((sortT (nubT ss)).map .str))]
def wordsOf (r : D) (ss : List Str) : Prop := r = .lst (ss.map .str) ∨ r = .tup (ss.map .str)
theorem strsOf_strs (ss : List Str) : strsOf (ss.map D.str) = some ss := strsOf_map ss
theorem small_dic {kvs : List (Key × D)} (h : kvs.length < sizeLine) : smallD (.dic kvs) := ⟨fun k e => (by cases e; exact h), fun xs e => (by rcases e with e | e <;> cases e)⟩
theorem words_in {r : D} {ss : List Str} {w : W} (h : wordsOf r ss) : textsIn r w ss := by
  rcases h with rfl | rfl <;> exact strsOf_map ss
theorem words_small {r : D} {ss : List Str} (h : wordsOf r ss) (z : ss.length ≤ sizeLine) : smallD r := by
  rcases h with rfl | rfl
  · exact ⟨fun k e => (by cases e), fun xs e => (by rcases e with e | e <;> cases e <;> (rw [List.length_map]; exact z))⟩
  · exact ⟨fun k e => (by cases e), fun xs e => (by rcases e with e | e <;> cases e <;> (rw [List.length_map]; exact z))⟩
/-- parts that make a program -/
structure OkProg (sc bn us os : List (Key × D)) (r : D) (ss : List Str) : Prop where
  ok : isProg (.dic sc) (.dic bn) (.dic us) (.dic os) r = true
  p1 : pl (.dic sc) = true
  p2 : pl (.dic bn) = true
  p3 : pl (.dic us) = true
  p4 : pl (.dic os) = true
  p5 : pl r = true
  k1 : strKeys sc ∧ sc.length < sizeLine
  k2 : strKeys bn ∧ bn.length < sizeLine
  k3 : strKeys us ∧ us.length < sizeLine
  k4 : strKeys os ∧ os.length < sizeLine
  wd : wordsOf r ss
  few : ss.length + 1 < scanBound
def Rooted (kvs : List (Key × D)) (s : Str) : Prop := ∃ a, (wayOut kvs s).getLast? = some a ∧ valD kvs (.inr a) = some .non

end DL
namespace DL
open PySem PySem.Spec PyProof.Rows L2
/-! tables with texts as keys, in plain Lean -/
abbrev Tab (α : Type) := List (Str × α)
section
variable {α : Type}
def keysN (t : Tab α) : List Str := t.map (·.1)
def lk (t : Tab α) (s : Str) : Option α := (t.find? fun e => decide (e.1 = s)).map (·.2)
def mK (f : α → D) (t : Tab α) : List (Key × D) := t.map fun e => (Sum.inr e.1, f e.2)
theorem lk_nil {s : Str} : lk ([] : Tab α) s = none := rfl
theorem lk_cons {e : Str × α} {t : Tab α} {s : Str} : lk (e :: t) s = if e.1 = s then some e.2 else lk t s := by
  unfold lk
  rw [List.find?_cons]
  by_cases h : e.1 = s
  · simp [h]
  · simp [h]
theorem lk_append {t t' : Tab α} {s : Str} : lk (t ++ t') s = (lk t s).or (lk t' s) := by
  induction t with
  | nil => rfl
  | cons e r ih =>
    rw [List.cons_append, lk_cons, lk_cons, ih]
    split <;> rfl
theorem valD_mK (f : α → D) (t : Tab α) (s : Str) : valD (mK f t) (.inr s) = (lk t s).map f := by
  induction t with
  | nil => rfl
  | cons e r ih =>
    rw [lk_cons]
    have e1 : valD (mK f (e :: r)) (.inr s) = if e.1 = s then some (f e.2) else valD (mK f r) (.inr s) := by
      unfold valD mK
      rw [List.map_cons, List.find?_cons]
      by_cases h : e.1 = s
      · simp [h]
      · simp [h]
    rw [e1, ih]
    split <;> rfl
theorem valD_mK_inl (f : α → D) (t : Tab α) (i : Int) : valD (mK f t) (.inl i) = none := by
  induction t with
  | nil => rfl
  | cons e r ih =>
    have e1 : valD (mK f (e :: r)) (.inl i) = valD (mK f r) (.inl i) := by
      unfold valD mK
      rw [List.map_cons, List.find?_cons]
      simp
    rw [e1, ih]
theorem dkeys_mK (f : α → D) (t : Tab α) : dkeys (mK f t) = (keysN t).map .str := by
  unfold dkeys mK keysN
  rw [List.map_map, List.map_map]
  rfl
theorem dvals_mK (f : α → D) (t : Tab α) : dvals (mK f t) = t.map fun e => f e.2 := by
  unfold dvals mK
  rw [List.map_map]
  rfl
theorem ditems_mK (f : α → D) (t : Tab α) : ditems (mK f t) = t.map fun e => .tup [.str e.1, f e.2] := by
  unfold ditems mK
  rw [List.map_map]
  rfl
theorem len_mK (f : α → D) (t : Tab α) : (mK f t).length = t.length := by unfold mK; rw [List.length_map]
theorem len_keysN (t : Tab α) : (keysN t).length = t.length := by unfold keysN; rw [List.length_map]
theorem keysN_append (t t' : Tab α) : keysN (t ++ t') = keysN t ++ keysN t' := by unfold keysN; rw [List.map_append]
theorem mK_append (f : α → D) (t t' : Tab α) : mK f (t ++ t') = mK f t ++ mK f t' := by unfold mK; rw [List.map_append]
theorem mK_keys (f : α → D) (t : Tab α) : (mK f t).map (·.1) = (keysN t).map Sum.inr := by
  unfold mK keysN
  rw [List.map_map, List.map_map]
  rfl
theorem lk_mem {t : Tab α} {s : Str} {a : α} (h : lk t s = some a) : (s, a) ∈ t := by
  unfold lk at h
  cases e : t.find? (fun e => decide (e.1 = s)) with
  | none => rw [e] at h; cases h
  | some q =>
    rw [e] at h; cases h
    have m := List.mem_of_find?_eq_some e
    have p : q.1 = s := by simpa using List.find?_some e
    subst p
    exact m
theorem lk_key {t : Tab α} {s : Str} {a : α} (h : lk t s = some a) : s ∈ keysN t := List.mem_map.mpr ⟨_, lk_mem h, rfl⟩
theorem lk_some {t : Tab α} {s : Str} (h : s ∈ keysN t) : ∃ a, lk t s = some a := by
  induction t with
  | nil => cases h
  | cons e r ih =>
    rw [lk_cons]
    by_cases q : e.1 = s
    · exact ⟨_, if_pos q⟩
    · rw [if_neg q]
      refine ih ?_
      rcases List.mem_cons.mp h with z | z
      · exact absurd z.symm q
      · exact z
theorem lk_none {t : Tab α} {s : Str} (h : s ∉ keysN t) : lk t s = none := by
  cases e : lk t s with
  | none => rfl
  | some a => exact absurd (lk_key e) h
theorem lk_isSome {t : Tab α} {s : Str} : (lk t s).isSome = true ↔ s ∈ keysN t :=
  ⟨fun h => let ⟨_, e⟩ := Option.isSome_iff_exists.mp h; lk_key e, fun h => let ⟨a, e⟩ := lk_some h; by rw [e]; rfl⟩
theorem lk_of_mem {t : Tab α} (nd : (keysN t).Nodup) {s : Str} {a : α} (h : (s, a) ∈ t) : lk t s = some a := by
  induction t with
  | nil => cases h
  | cons e r ih =>
    rw [lk_cons]
    have nd' : e.1 ∉ keysN r ∧ (keysN r).Nodup := List.nodup_cons.mp nd
    rcases List.mem_cons.mp h with z | z
    · subst z; exact if_pos rfl
    · have : e.1 ≠ s := fun q => nd'.1 (q ▸ List.mem_map.mpr ⟨_, z, rfl⟩)
      rw [if_neg this]
      exact ih nd'.2 z
theorem lk_iff {t : Tab α} (nd : (keysN t).Nodup) {s : Str} {a : α} : lk t s = some a ↔ (s, a) ∈ t := ⟨lk_mem, lk_of_mem nd⟩
theorem perm_keys {t t' : Tab α} (p : t.Perm t') : (keysN t).Perm (keysN t') := p.map _
theorem lk_perm {t t' : Tab α} (nd : (keysN t).Nodup) (p : t.Perm t') (s : Str) : lk t' s = lk t s := by
  have nd' : (keysN t').Nodup := (perm_keys p).nodup_iff.mp nd
  cases e : lk t s with
  | none =>
    refine lk_none fun m => ?_
    obtain ⟨a, q⟩ := lk_some ((perm_keys p).mem_iff.mpr m)
    rw [e] at q; cases q
  | some a => exact lk_of_mem nd' (p.mem_iff.mp (lk_mem e))
/-- stored -/
def putN (t : Tab α) (s : Str) (a : α) : Tab α := if s ∈ keysN t then t.map (fun e => if e.1 = s then (e.1, a) else e) else t ++ [(s, a)]
theorem putD_mK (f : α → D) (t : Tab α) (s : Str) (a : α) : putD (mK f t) (.inr s) (f a) = mK f (putN t s a) := by
  have h : ((mK f t).any fun kv => decide (kv.1 = Sum.inr s)) = decide (s ∈ keysN t) := by
    unfold mK keysN
    rw [List.any_map, Bool.eq_iff_iff, List.any_eq_true, decide_eq_true_eq, List.mem_map]
    constructor
    · rintro ⟨x, hx, e⟩
      refine ⟨x, hx, ?_⟩
      have e : (Sum.inr x.1 : Key) = Sum.inr s := of_decide_eq_true e
      exact Sum.inr.inj e
    · rintro ⟨x, hx, e⟩
      exact ⟨x, hx, decide_eq_true (show (Sum.inr x.1 : Key) = Sum.inr s by rw [e])⟩
  unfold putD putN
  rw [h]
  by_cases q : s ∈ keysN t
  · rw [if_pos (decide_eq_true q), if_pos q]
    unfold mK
    rw [List.map_map, List.map_map]
    refine List.map_congr_left fun e _ => ?_
    simp only [Function.comp]
    by_cases z : e.1 = s
    · rw [if_pos z, if_pos (by rw [z])]
    · rw [if_neg z, if_neg (fun y => z (Sum.inr.inj y))]
  · rw [if_neg (by rw [decide_eq_false q]; decide), if_neg q]
    unfold mK
    rw [List.map_append]
    rfl
theorem keysN_putN (t : Tab α) (s : Str) (a : α) : keysN (putN t s a) = if s ∈ keysN t then keysN t else keysN t ++ [s] := by
  unfold putN
  split
  · unfold keysN
    rw [List.map_map]
    refine List.map_congr_left fun e _ => ?_
    simp only [Function.comp]
    split <;> rfl
  · rw [keysN_append]; rfl
theorem nodup_putN {t : Tab α} (nd : (keysN t).Nodup) (s : Str) (a : α) : (keysN (putN t s a)).Nodup := by
  rw [keysN_putN]
  split
  · exact nd
  · rename_i h
    rw [List.nodup_append]
    refine ⟨nd, by simp, fun x hx y hy => ?_⟩
    rw [List.mem_singleton] at hy
    subst hy
    exact fun z => h (z ▸ hx)
theorem lk_map_ne (f : Str × α → α) {t : Tab α} {s j : Str} : lk (t.map fun e => if e.1 = s then (e.1, f e) else e) j = if s = j then ((t.find? fun e => decide (e.1 = j)).map f) else lk t j := by
  induction t with
  | nil => split <;> rfl
  | cons e r ih =>
    rw [List.map_cons, lk_cons, ih]
    by_cases h : s = j
    · subst h
      rw [if_pos rfl, if_pos rfl, List.find?_cons]
      by_cases q : e.1 = s
      · simp [q]
      · simp [q]
    · rw [if_neg h, if_neg h, lk_cons]
      by_cases q : e.1 = s
      · have : e.1 ≠ j := fun z => h (q ▸ z)
        simp [q, h]
      · rw [if_neg q]
theorem lk_putN (t : Tab α) (s j : Str) (a : α) : lk (putN t s a) j = if s = j then some a else lk t j := by
  unfold putN
  split
  · rename_i h
    rw [lk_map_ne fun _ => a]
    by_cases q : s = j
    · subst q
      rw [if_pos rfl, if_pos rfl]
      obtain ⟨b, hb⟩ := lk_some h
      unfold lk at hb
      cases e : t.find? (fun e => decide (e.1 = s)) with
      | none => rw [e] at hb; cases hb
      | some q => rfl
    · rw [if_neg q, if_neg q]
  · rename_i h
    rw [lk_append, lk_cons]
    by_cases q : s = j
    · subst q
      rw [if_pos rfl, if_pos rfl, lk_none h]
      rfl
    · rw [if_neg q, if_neg q]
      cases lk t j <;> rfl
theorem putN_new {t : Tab α} {s : Str} {a : α} (h : s ∉ keysN t) : putN t s a = t ++ [(s, a)] := if_neg h
/-- in ascending order -/
def ascN (t : Tab α) : Tab α := t.mergeSort fun a b => leT a.1 b.1
theorem ascN_perm (t : Tab α) : (ascN t).Perm t := List.mergeSort_perm _ _
theorem keysN_ascN (t : Tab α) : keysN (ascN t) = sortT (keysN t) := by
  unfold keysN ascN sortT
  exact List.map_mergeSort fun a _ b _ => rfl
theorem nodup_ascN {t : Tab α} (nd : (keysN t).Nodup) : (keysN (ascN t)).Nodup := (perm_keys (ascN_perm t)).nodup_iff.mpr nd
theorem lk_ascN {t : Tab α} (nd : (keysN t).Nodup) (s : Str) : lk (ascN t) s = lk t s := lk_perm nd (ascN_perm t).symm s
theorem len_ascN (t : Tab α) : (ascN t).length = t.length := (ascN_perm t).length_eq
theorem ascD_mK (f : α → D) {t : Tab α} (nd : (keysN t).Nodup) : ascD (mK f t) = mK f (ascN t) := by
  have h1 : ((mK f t).map fun kv => keyStr kv.1) = keysN t := by
    unfold mK keysN
    rw [List.map_map]
    rfl
  unfold ascD
  rw [h1, ← keysN_ascN]
  unfold keysN mK
  rw [List.map_map]
  refine List.map_congr_left fun e he => ?_
  simp only [Function.comp]
  have h2 := valD_mK f t e.1
  unfold mK at h2
  rw [h2, lk_of_mem nd (a := e.2) ((ascN_perm t).mem_iff.mp he)]
  rfl
/-- in ascending order already -/
def Srt (t : Tab α) : Prop := (keysN t).Pairwise fun a b => leT a b = true
theorem srt_ascN (t : Tab α) : Srt (ascN t) := by
  unfold Srt
  rw [keysN_ascN]
  exact sortT_ord _
theorem sortT_srt {xs : List Str} (h : xs.Pairwise fun a b => leT a b = true) : sortT xs = xs := List.mergeSort_of_pairwise h
theorem strKeys_mK (f : α → D) {t : Tab α} (nd : (keysN t).Nodup) : strKeys (mK f t) := ⟨keysN t, mK_keys f t, nd⟩
end
/-! sorted texts -/
theorem sort_same {xs ys : List Str} (hx : xs.Nodup) (hy : ys.Nodup) (h : ∀ s, s ∈ xs ↔ s ∈ ys) : sortT xs = sortT ys :=
  sortT_eq ((List.perm_ext_iff_of_nodup hx hy).mpr h)
theorem sort_nub {xs ys : List Str} (h : ∀ s, s ∈ xs ↔ s ∈ ys) : sortT (nubT xs) = sortT (nubT ys) :=
  sort_same (nubT_nodup _) (nubT_nodup _) fun s => by rw [nubT_mem, nubT_mem, h]
theorem mem_sortT {xs : List Str} {s : Str} : s ∈ sortT xs ↔ s ∈ xs := (sortT_perm xs).mem_iff

theorem len_sub {xs ys : List Str} (nd : xs.Nodup) (h : ∀ s ∈ xs, s ∈ ys) : xs.length ≤ ys.length := by
  induction xs generalizing ys with
  | nil => exact Nat.zero_le _
  | cons x r ih =>
    have nd' := List.nodup_cons.mp nd
    have hx := h x (List.mem_cons_self ..)
    have p := (List.perm_cons_erase hx).length_eq
    have q := ih (ys := ys.erase x) nd'.2 fun s hs => (List.mem_erase_of_ne (fun (e : s = x) => nd'.1 (e ▸ hs))).mpr (h s (List.mem_cons_of_mem _ hs))
    simp at p ⊢
    omega

/-! programs in plain Lean -/
abbrev Sc := Tab (Option Str)
abbrev Tb := Tab (Str × Str)
structure Parts where
  sc : Sc
  bn : Tb
  us : Tb
  ou : Tb
  rs : List Str
  deriving DecidableEq
def oD : Option Str → D
  | none => .non
  | some s => .str s
def pD (p : Str × Str) : D := .tup [.str p.1, .str p.2]
abbrev scK (sc : Sc) : List (Key × D) := mK oD sc
abbrev tbK (t : Tb) : List (Key × D) := mK pD t
def wayN (sc : Sc) : Nat → Str → List Str
  | 0, s => [s]
  | n + 1, s => s :: (match lk sc s with | some (some y) => wayN sc n y | _ => [])
def way (sc : Sc) (s : Str) : List Str := wayN sc sc.length s
theorem wayGo_scK (sc : Sc) : ∀ (n : Nat) (s : Str), wayGo (scK sc) n s = wayN sc n s
  | 0, _ => rfl
  | n + 1, s => by
    unfold wayGo wayN
    rw [valD_mK]
    cases lk sc s with
    | none => rfl
    | some p =>
      cases p with
      | none => rfl
      | some y => show s :: wayGo (scK sc) n y = s :: wayN sc n y; rw [wayGo_scK sc n y]
theorem wayOut_scK (sc : Sc) (s : Str) : wayOut (scK sc) s = way sc s := by
  unfold wayOut way
  rw [wayGo_scK, len_mK]
structure ScOk (sc : Sc) : Prop where
  nd : (keysN sc).Nodup
  wd : ∀ s ∈ keysN sc, wordS s = true
  cl : ∀ s p, lk sc s = some (some p) → p ∈ keysN sc
  rt : ∃ r, lk sc r = some none ∧ ∀ s ∈ keysN sc, ∃ pre, way sc s = pre ++ [r]
theorem wayN_more {sc : Sc} {r : Str} (hr : lk sc r = some none) : ∀ {n : Nat} {s : Str} {pre : List Str}, wayN sc n s = pre ++ [r] → ∀ m, n ≤ m → wayN sc m s = pre ++ [r]
  | 0, s, pre, h, m, _ => by
    have hs : s = r ∧ pre = [] := by
      have h : [s] = pre ++ [r] := h
      cases pre with
      | nil => simp at h; exact ⟨h, rfl⟩
      | cons a p => simp at h
    obtain ⟨rfl, rfl⟩ := hs
    cases m with
    | zero => rfl
    | succ m => unfold wayN; rw [hr]; rfl
  | n + 1, s, pre, h, m, hm => by
    obtain ⟨m, rfl⟩ : ∃ m', m = m' + 1 := ⟨m - 1, by omega⟩
    unfold wayN at h ⊢
    cases e : lk sc s with
    | none => rw [e] at h; exact h
    | some p =>
      cases p with
      | none => rw [e] at h; exact h
      | some y =>
        rw [e] at h
        have h : s :: wayN sc n y = pre ++ [r] := h
        show s :: wayN sc m y = pre ++ [r]
        cases pre with
        | nil =>
          exfalso
          have h : s :: wayN sc n y = [r] := h
          have : wayN sc n y = [] := by simpa using (List.cons.inj h).2
          cases n <;> (unfold wayN at this; simp at this)
        | cons a p =>
          have h := List.cons.inj h
          rw [wayN_more hr h.2 m (by omega), h.1]
          rfl
namespace ScOk
variable {sc : Sc}
theorem pos (o : ScOk sc) {s : Str} (h : s ∈ keysN sc) : 0 < sc.length := by
  rw [← len_keysN]
  exact List.length_pos_of_mem h
theorem way_root (o : ScOk sc) {s : Str} (h : lk sc s = some none) : way sc s = [s] := by
  have := o.pos (lk_key h)
  unfold way
  obtain ⟨n, e⟩ : ∃ n, sc.length = n + 1 := ⟨sc.length - 1, by omega⟩
  rw [e]
  unfold wayN
  rw [h]
theorem root_eq (o : ScOk sc) : ∃ r, lk sc r = some none ∧ (∀ s ∈ keysN sc, ∃ pre, way sc s = pre ++ [r]) ∧ ∀ s, lk sc s = some none → s = r := by
  obtain ⟨r, hr, hw⟩ := o.rt
  refine ⟨r, hr, hw, fun s hs => ?_⟩
  obtain ⟨pre, e⟩ := hw s (lk_key hs)
  rw [o.way_root hs] at e
  cases pre with
  | nil => simpa using e
  | cons a p => simp at e
theorem way_cons (o : ScOk sc) {s p : Str} (h : lk sc s = some (some p)) : way sc s = s :: way sc p := by
  obtain ⟨r, hr, hw⟩ := o.rt
  have := o.pos (lk_key h)
  obtain ⟨n, e⟩ : ∃ n, sc.length = n + 1 := ⟨sc.length - 1, by omega⟩
  obtain ⟨pre, hp⟩ := hw s (lk_key h)
  have h1 : way sc s = s :: wayN sc n p := by
    show wayN sc sc.length s = _
    rw [e]
    show s :: (match lk sc s with | some (some y) => wayN sc n y | _ => []) = _
    rw [h]
  rw [h1] at hp ⊢
  have h2 : ∃ pre', wayN sc n p = pre' ++ [r] := by
    cases pre with
    | nil =>
      exfalso
      have : wayN sc n p = [] := by simpa using (List.cons.inj hp).2
      cases n <;> (unfold wayN at this; simp at this)
    | cons a q => exact ⟨q, (List.cons.inj hp).2⟩
  obtain ⟨pre', h2⟩ := h2
  unfold way
  rw [h2, wayN_more hr h2 sc.length (by omega)]
/-- by how far away the root is -/
theorem ind (o : ScOk sc) {P : Str → Prop} (h0 : ∀ s, lk sc s = some none → P s) (h1 : ∀ s p, lk sc s = some (some p) → P p → P s) : ∀ s ∈ keysN sc, P s := by
  have key : ∀ (n : Nat) (s : Str), s ∈ keysN sc → (way sc s).length = n → P s := by
    intro n
    induction n with
    | zero =>
      intro s hs hn
      obtain ⟨a, ha⟩ := lk_some hs
      cases a with
      | none => rw [o.way_root ha] at hn; cases hn
      | some p => rw [o.way_cons ha] at hn; cases hn
    | succ n ih =>
      intro s hs hn
      obtain ⟨a, ha⟩ := lk_some hs
      cases a with
      | none => exact h0 s ha
      | some p =>
        rw [o.way_cons ha] at hn
        exact h1 s p ha (ih p (o.cl s p ha) (by simpa using hn))
  exact fun s hs => key _ s hs rfl
theorem self_mem (o : ScOk sc) {s : Str} (h : s ∈ keysN sc) : s ∈ way sc s := by
  obtain ⟨a, ha⟩ := lk_some h
  cases a with
  | none => rw [o.way_root ha]; exact List.mem_cons_self ..
  | some p => rw [o.way_cons ha]; exact List.mem_cons_self ..
theorem way_keys (o : ScOk sc) : ∀ s ∈ keysN sc, ∀ t ∈ way sc s, t ∈ keysN sc := by
  refine o.ind (fun s h t ht => ?_) (fun s p h ih t ht => ?_)
  · rw [o.way_root h] at ht
    rw [List.mem_singleton.mp ht]
    exact lk_key h
  · rw [o.way_cons h] at ht
    rcases List.mem_cons.mp ht with rfl | ht
    · exact lk_key h
    · exact ih t ht
/-- the way from a scope on the way is the way's rest -/
theorem way_mid (o : ScOk sc) : ∀ s ∈ keysN sc, ∀ t ∈ way sc s, ∃ pre, way sc s = pre ++ way sc t := by
  refine o.ind (fun s h t ht => ?_) (fun s p h ih t ht => ?_)
  · rw [o.way_root h] at ht
    rw [List.mem_singleton.mp ht]
    exact ⟨[], rfl⟩
  · rw [o.way_cons h] at ht
    rcases List.mem_cons.mp ht with rfl | ht
    · exact ⟨[], rfl⟩
    · obtain ⟨pre, e⟩ := ih t ht
      exact ⟨s :: pre, by rw [o.way_cons h, e]; rfl⟩
theorem way_len (o : ScOk sc) {s : Str} (h : s ∈ keysN sc) : 0 < (way sc s).length := List.length_pos_of_mem (o.self_mem h)
theorem way_nodup (o : ScOk sc) : ∀ s ∈ keysN sc, (way sc s).Nodup := by
  refine o.ind (fun s h => ?_) (fun s p h ih => ?_)
  · rw [o.way_root h]; simp
  · rw [o.way_cons h, List.nodup_cons]
    refine ⟨fun hm => ?_, ih⟩
    obtain ⟨pre, e⟩ := o.way_mid p (o.cl s p h) s hm
    have := congrArg List.length e
    rw [o.way_cons h] at this
    simp at this
    omega
end ScOk
theorem wayN_congr {sc sc' : Sc} (h : ∀ s, lk sc' s = lk sc s) : ∀ (n : Nat) (s : Str), wayN sc' n s = wayN sc n s
  | 0, _ => rfl
  | n + 1, s => by
    unfold wayN
    rw [h s]
    cases lk sc s with
    | none => rfl
    | some p =>
      cases p with
      | none => rfl
      | some y => show s :: wayN sc' n y = s :: wayN sc n y; rw [wayN_congr h n y]
theorem way_perm {sc sc' : Sc} (nd : (keysN sc).Nodup) (p : sc.Perm sc') (s : Str) : way sc' s = way sc s := by
  unfold way
  rw [wayN_congr (lk_perm nd p), p.length_eq]
theorem ScOk.perm {sc sc' : Sc} (o : ScOk sc) (p : sc.Perm sc') : ScOk sc' := by
  have pk := perm_keys p
  refine ⟨pk.nodup_iff.mp o.nd, fun s h => o.wd s (pk.mem_iff.mpr h), fun s q h => ?_, ?_⟩
  · rw [lk_perm o.nd p] at h
    exact pk.mem_iff.mp (o.cl s q h)
  · obtain ⟨r, hr, hw⟩ := o.rt
    exact ⟨r, by rw [lk_perm o.nd p]; exact hr, fun s h => by
      rw [way_perm o.nd p]
      exact hw s (pk.mem_iff.mpr h)⟩
theorem ScOk.asc {sc : Sc} (o : ScOk sc) : ScOk (ascN sc) := o.perm (ascN_perm sc).symm
theorem ScOk.closed {sc : Sc} (o : ScOk sc) : Closed (scK sc) := by
  intro s d h
  rw [valD_mK] at h
  cases e : lk sc s with
  | none => rw [e] at h; cases h
  | some p =>
    rw [e] at h; cases h
    cases p with
    | none => exact .inl rfl
    | some y =>
      refine .inr ⟨y, rfl, ?_⟩
      rw [valD_mK]
      obtain ⟨a, ha⟩ := lk_some (o.cl s y e)
      rw [ha]
      rfl
theorem isKey_mK {α : Type} (f : α → D) {t : Tab α} {s : Str} : isKey (mK f t) (.str s) = decide (s ∈ keysN t) := by
  show (valD (mK f t) (.inr s)).isSome = _
  rw [valD_mK, Option.isSome_map, Bool.eq_iff_iff, lk_isSome, decide_eq_true_eq]
theorem val_some {α : Type} (f : α → D) {t : Tab α} {s : Str} (h : s ∈ keysN t) : (valD (mK f t) (.inr s)).isSome = true := by
  rw [valD_mK, Option.isSome_map, lk_isSome]; exact h
theorem filter_one {xs : List Str} {p : Str → Bool} {r : Str} (nd : xs.Nodup) (hr : r ∈ xs) (hp : p r = true) (h : ∀ s ∈ xs, p s = true → s = r) : xs.filter p = [r] := by
  induction xs with
  | nil => cases hr
  | cons x t ih =>
    have nd' := List.nodup_cons.mp nd
    by_cases e : x = r
    · subst e
      rw [List.filter_cons_of_pos hp]
      have : t.filter p = [] := by
        rw [List.filter_eq_nil_iff]
        intro s hs hq
        have := h s (List.mem_cons_of_mem _ hs) hq
        exact nd'.1 (this ▸ hs)
      rw [this]
    · have hx : ¬ p x = true := fun q => e (h x (List.mem_cons_self ..) q)
      rw [List.filter_cons_of_neg hx]
      refine ih nd'.2 ?_ fun s hs => h s (List.mem_cons_of_mem _ hs)
      rcases List.mem_cons.mp hr with z | z
      · exact absurd z.symm e
      · exact z
theorem ScOk.isTree {sc : Sc} (o : ScOk sc) : isTree (.dic (scK sc)) = true := by
  obtain ⟨r, hr, hw, hu⟩ := o.root_eq
  have hroots : rootsOf (scK sc) = [.str r] := by
    unfold rootsOf
    rw [dkeys_mK, List.filter_map]
    have e : (nonAt (scK sc) ∘ D.str) = fun s => decide (lk sc s = some none) := by
      funext s
      show (match valD (scK sc) (.inr s) with | some .non => true | _ => false) = _
      rw [valD_mK]
      cases lk sc s with
      | none => rfl
      | some p => cases p <;> rfl
    rw [e, filter_one (r := r) o.nd (lk_key hr) (decide_eq_true hr) fun s _ h => hu s (of_decide_eq_true h)]
    rfl
  rw [isTree_dic, Bool.and_eq_true, Bool.and_eq_true, Bool.and_eq_true]
  refine ⟨?_, ?_, by rw [hroots]; rfl, ?_⟩
  · rw [dkeys_mK, List.all_map]
    exact List.all_eq_true.mpr fun s hs => o.wd s hs
  · rw [dvals_mK, List.all_map]
    refine List.all_eq_true.mpr fun e he => ?_
    show (isNon (oD e.2) || isKey (scK sc) (oD e.2)) = true
    obtain ⟨s, p⟩ := e
    cases p with
    | none => rfl
    | some y =>
      show (false || isKey (scK sc) (.str y)) = true
      rw [Bool.false_or, isKey_mK]
      exact decide_eq_true (o.cl s y (lk_of_mem o.nd he))
  · rw [dkeys_mK, List.all_map]
    refine List.all_eq_true.mpr fun s hs => ?_
    obtain ⟨pre, e⟩ := hw s hs
    show (match (wayOut (scK sc) s).getLast?, (rootsOf (scK sc)).head? with | some a, some (.str b) => decide (a = b) | _, _ => false) = true
    rw [wayOut_scK, e, hroots]
    simp
/-- what makes parts a program -/
structure WF (P : Parts) : Prop where
  sc : ScOk P.sc
  bnd : (keysN P.bn).Nodup
  bwd : ∀ e ∈ P.bn, wordS e.1 = true ∧ wordS e.2.2 = true ∧ e.2.1 ∈ keysN P.sc
  usd : (keysN P.us).Nodup
  uwd : ∀ e ∈ P.us, wordS e.1 = true ∧ e.2.1 ∈ keysN P.sc ∧ ∃ b, lk P.bn e.2.2 = some b ∧ b.1 ∈ way P.sc e.2.1
  oud : (keysN P.ou).Nodup
  owd : ∀ e ∈ P.ou, wordS e.1 = true ∧ wordS e.2.2 = true ∧ e.2.1 ∈ keysN P.sc
  dis : ∀ s ∈ keysN P.ou, s ∉ keysN P.us
  rwd : ∀ s ∈ P.rs, wordS s = true
  sm : P.sc.length ≤ 1000 ∧ P.bn.length ≤ 1000 ∧ P.us.length ≤ 1000 ∧ P.ou.length ≤ 1000 ∧ P.rs.length ≤ 1000
theorem word_len {s : Str} (h : wordS s = true) : s.length ≤ 8 := by
  unfold wordS at h
  simp only [Bool.and_eq_true, decide_eq_true_eq] at h
  exact h.1.1.2
theorem word_pl {s : Str} (h : wordS s = true) : pl (.str s) = true := by
  unfold pl
  exact decide_eq_true (Nat.le_trans (word_len h) (sz_nat 8))
theorem plK_of {α : Type} (f : α → D) : ∀ {t : Tab α}, (∀ e ∈ t, wordS e.1 = true ∧ pl (f e.2) = true) → plK (mK f t) = true
  | [], _ => by unfold mK plK; rfl
  | e :: r, h => by
    have h1 := h e (List.mem_cons_self ..)
    have ih := plK_of f (t := r) fun x hx => h x (List.mem_cons_of_mem _ hx)
    unfold mK at ih ⊢
    rw [List.map_cons]
    unfold plK
    rw [ih, h1.2]
    simp only [Bool.and_true]
    exact decide_eq_true (Nat.le_trans (word_len h1.1) (sz_nat 8))
theorem plL_strs : ∀ {xs : List Str}, (∀ s ∈ xs, wordS s = true) → plL (xs.map .str) = true
  | [], _ => by unfold plL; rfl
  | x :: r, h => by
    rw [List.map_cons]
    unfold plL
    rw [plL_strs fun s hs => h s (List.mem_cons_of_mem _ hs), word_pl (h x (List.mem_cons_self ..))]
    rfl
theorem pl_pD {p : Str × Str} (h1 : wordS p.1 = true) (h2 : wordS p.2 = true) : pl (pD p) = true := by
  unfold pD pl
  exact plL_strs (xs := [p.1, p.2]) fun s hs => by
    simp only [List.mem_cons, List.not_mem_nil, or_false] at hs
    rcases hs with rfl | rfl
    · exact h1
    · exact h2
theorem bnds_nat {sc : Sc} {t : Tb} (h : ∀ e ∈ t, wordS e.1 = true ∧ wordS e.2.2 = true ∧ e.2.1 ∈ keysN sc) : areBnds (scK sc) (.dic (tbK t)) = true := by
  rw [areBnds_dic, Bool.and_eq_true]
  refine ⟨?_, ?_⟩
  · unfold namesPairs
    rw [ditems_mK, List.all_map]
    refine List.all_eq_true.mpr fun e he => ?_
    show (isWord (.str e.1) && isPair (pD e.2)) = true
    rw [show isWord (.str e.1) = true from (h e he).1]
    rfl
  · rw [dvals_mK, List.all_map]
    refine List.all_eq_true.mpr fun e he => ?_
    show (isKey (scK sc) (.str e.2.1) && isWord (.str e.2.2)) = true
    rw [isKey_mK, decide_eq_true (h e he).2.2, show isWord (.str e.2.2) = true from (h e he).2.1]
    rfl
theorem keys_word {P : Parts} (o : WF P) {s : Str} (h : s ∈ keysN P.bn) : wordS s = true := by
  obtain ⟨e, he, rfl⟩ := List.mem_map.mp h
  exact (o.bwd e he).1
theorem uses_nat {P : Parts} (o : WF P) : areUses (scK P.sc) (tbK P.bn) (.dic (tbK P.us)) = true := by
  rw [areUses_dic, Bool.and_eq_true, Bool.and_eq_true]
  refine ⟨?_, ?_, ?_⟩
  · unfold namesPairs
    rw [ditems_mK, List.all_map]
    refine List.all_eq_true.mpr fun e he => ?_
    show (isWord (.str e.1) && isPair (pD e.2)) = true
    rw [show isWord (.str e.1) = true from (o.uwd e he).1]
    rfl
  · rw [dvals_mK, List.all_map]
    refine List.all_eq_true.mpr fun e he => ?_
    show (isKey (scK P.sc) (.str e.2.1) && isKey (tbK P.bn) (.str e.2.2)) = true
    obtain ⟨_, h1, b, h2, _⟩ := o.uwd e he
    rw [isKey_mK, isKey_mK, decide_eq_true h1, decide_eq_true (lk_key h2)]
    rfl
  · rw [dvals_mK, List.all_map]
    refine List.all_eq_true.mpr fun e he => ?_
    show (match valD (tbK P.bn) (.inr e.2.2) with | some (.tup [.str b, _]) => decide (b ∈ wayOut (scK P.sc) e.2.1) | _ => false) = true
    obtain ⟨_, h1, b, h2, h3⟩ := o.uwd e he
    rw [valD_mK, h2, wayOut_scK]
    exact decide_eq_true h3
theorem oD_pl {sc : Sc} (o : ScOk sc) {e : Str × Option Str} (he : e ∈ sc) : pl (oD e.2) = true := by
  obtain ⟨s, p⟩ := e
  cases p with
  | none => rfl
  | some y => exact word_pl (o.wd y (o.cl s y (lk_of_mem o.nd he)))
theorem key_of {α : Type} {t : Tab α} {e : Str × α} (h : e ∈ t) : e.1 ∈ keysN t := List.mem_map.mpr ⟨e, h, rfl⟩
theorem words_all {r : D} {ss : List Str} (h : wordsOf r ss) (hw : ∀ s ∈ ss, wordS s = true) : isWords r = true ∧ pl r = true := by
  have h1 : (ss.map D.str).all isWord = true := by
    rw [List.all_map]
    exact List.all_eq_true.mpr fun s hs => hw s hs
  have h2 := plL_strs hw
  rcases h with rfl | rfl
  · exact ⟨h1, by unfold pl; exact h2⟩
  · exact ⟨h1, by unfold pl; exact h2⟩
theorem WF.okProg {P : Parts} (o : WF P) {r : D} (h : wordsOf r P.rs) : OkProg (scK P.sc) (tbK P.bn) (tbK P.us) (tbK P.ou) r P.rs := by
  obtain ⟨z1, z2, z3, z4, z5⟩ := o.sm
  have big : (1000 : Nat) < sizeLine := by rw [sizeLine_eq]; decide
  have hw := words_all h o.rwd
  have lt : ∀ {n : Nat}, n ≤ 1000 → n < sizeLine := fun h => Nat.lt_of_le_of_lt h big
  refine ⟨?_, ?_, ?_, ?_, ?_, hw.2, ⟨strKeys_mK _ o.sc.nd, by rw [len_mK]; exact lt z1⟩, ⟨strKeys_mK _ o.bnd, by rw [len_mK]; exact lt z2⟩, ⟨strKeys_mK _ o.usd, by rw [len_mK]; exact lt z3⟩, ⟨strKeys_mK _ o.oud, by rw [len_mK]; exact lt z4⟩, h, ?_⟩
  · unfold isProg
    dsimp only
    rw [o.sc.isTree, bnds_nat o.bwd, uses_nat o, bnds_nat o.owd, hw.1]
    simp only [Bool.true_and, Bool.not_eq_true', dkeys_mK, List.any_map]
    rw [Bool.eq_false_iff]
    intro hh
    obtain ⟨s, hs, e⟩ := List.any_eq_true.mp hh
    have e : (valD (tbK P.us) (.inr s)).isSome = true := e
    rw [valD_mK, Option.isSome_map, lk_isSome] at e
    exact o.dis s hs e
  · unfold pl
    exact plK_of oD fun e he => ⟨o.sc.wd e.1 (key_of he), oD_pl o.sc he⟩
  · unfold pl
    exact plK_of pD fun e he => ⟨(o.bwd e he).1, pl_pD (o.sc.wd _ (o.bwd e he).2.2) (o.bwd e he).2.1⟩
  · unfold pl
    refine plK_of pD fun e he => ?_
    obtain ⟨h0, h1, b, h2, _⟩ := o.uwd e he
    exact ⟨h0, pl_pD (o.sc.wd _ h1) (keys_word o (lk_key h2))⟩
  · unfold pl
    exact plK_of pD fun e he => ⟨(o.owd e he).1, pl_pD (o.sc.wd _ (o.owd e he).2.2) (o.owd e he).2.1⟩
  · refine Nat.lt_of_le_of_lt (Nat.succ_le_succ z5) (by decide)
/-- as a program holds them -/
def progF (P : Parts) : List (Str × D) := [("parents", .dic (scK P.sc)), ("declared", .dic (tbK P.bn)), ("targets", .dic (tbK P.us)), ("outside", .dic (tbK P.ou)), ("blocked", .tup (P.rs.map .str))]
def progD (P : Parts) : D := .obj "Program" (progF P)
def sortP (P : Parts) : Parts := ⟨ascN P.sc, ascN P.bn, ascN P.us, ascN P.ou, sortT (nubT P.rs)⟩
theorem progFs_nat {P : Parts} (o : WF P) : progFs (scK P.sc) (tbK P.bn) (tbK P.us) (tbK P.ou) P.rs = progF (sortP P) := by
  unfold progFs progF sortP
  rw [ascD_mK _ o.sc.nd, ascD_mK _ o.bnd, ascD_mK _ o.usd, ascD_mK _ o.oud]
theorem WF.sort {P : Parts} (o : WF P) : WF (sortP P) := by
  have pk := perm_keys (ascN_perm P.sc)
  have hsc : ∀ s, s ∈ keysN P.sc → s ∈ keysN (ascN P.sc) := fun s h => pk.mem_iff.mpr h
  obtain ⟨z1, z2, z3, z4, z5⟩ := o.sm
  refine ⟨o.sc.asc, nodup_ascN o.bnd, fun e he => ?_, nodup_ascN o.usd, fun e he => ?_, nodup_ascN o.oud, fun e he => ?_, fun s hs hu => ?_, fun s hs => ?_, ?_⟩
  · obtain ⟨h1, h2, h3⟩ := o.bwd e ((ascN_perm _).mem_iff.mp he)
    exact ⟨h1, h2, hsc _ h3⟩
  · obtain ⟨h1, h2, b, h3, h4⟩ := o.uwd e ((ascN_perm _).mem_iff.mp he)
    refine ⟨h1, hsc _ h2, b, by show lk (ascN P.bn) _ = _; rw [lk_ascN o.bnd]; exact h3, ?_⟩
    show b.1 ∈ way (ascN P.sc) _
    rw [way_perm o.sc.nd (ascN_perm P.sc).symm]
    exact h4
  · obtain ⟨h1, h2, h3⟩ := o.owd e ((ascN_perm _).mem_iff.mp he)
    exact ⟨h1, h2, hsc _ h3⟩
  · exact o.dis s ((perm_keys (ascN_perm P.ou)).mem_iff.mp hs) ((perm_keys (ascN_perm P.us)).mem_iff.mp hu)
  · have hs : s ∈ sortT (nubT P.rs) := hs
    rw [mem_sortT, nubT_mem] at hs
    exact o.rwd s hs
  · refine ⟨by show (ascN P.sc).length ≤ _; rw [len_ascN]; exact z1, by show (ascN P.bn).length ≤ _; rw [len_ascN]; exact z2, by show (ascN P.us).length ≤ _; rw [len_ascN]; exact z3, by show (ascN P.ou).length ≤ _; rw [len_ascN]; exact z4, ?_⟩
    show (sortT (nubT P.rs)).length ≤ _
    rw [sortT_len]
    exact Nat.le_trans (nubT_len _) z5

end DL
namespace DL
open PySem PySem.Spec PyProof.Rows L2
/-! small words for readings over plain tables -/
theorem seqIx {d : Int} {n : Nat} (h0 : 0 ≤ d) (h1 : d < n) : seqIndex? d n = some d.toNat := by
  have e : ixN n d = some d.toNat := by
    unfold ixN
    rw [if_pos h0, if_pos h1]
  exact (ixN_seq e).1
theorem ixN_nat {i n : Nat} (h : i < n) : ixN n (i : Int) = some i := by
  unfold ixN
  rw [if_pos (by omega), if_pos (by omega)]
  rfl
theorem atI_of {α : Type} {xs : List α} {d : Int} {x : α} (h0 : 0 ≤ d) (h : xs[d.toNat]? = some x) : atI xs d = some x := by
  have lt := (List.getElem?_eq_some_iff.mp h).1
  unfold atI ixN
  rw [if_pos h0, if_pos (by omega)]
  exact h
theorem atI_map {α : Type} {f : α → D} {xs : List α} {d : Int} {x : α} (h0 : 0 ≤ d) (h : xs[d.toNat]? = some x) : atI (xs.map f) d = some (f x) :=
  atI_of h0 (by rw [List.getElem?_map, h]; rfl)
/-- an index that is drawn -/
theorem at_draw {α : Type} {xs : List α} {d : Int} (h0 : 0 ≤ d) (h1 : d < xs.length) : ∃ x, x ∈ xs ∧ xs[d.toNat]? = some x := by
  have lt : d.toNat < xs.length := by omega
  exact ⟨xs[d.toNat], List.getElem_mem lt, List.getElem?_eq_getElem lt⟩
theorem perm_pop {α : Type} {xs : List α} {k : Nat} {x : α} (h : xs[k]? = some x) : (x :: xs.eraseIdx k).Perm xs := by
  induction xs generalizing k with
  | nil => cases h
  | cons a r ih =>
    cases k with
    | zero =>
      simp at h
      subst h
      exact List.Perm.refl _
    | succ k =>
      simp at h
      have q := ih h
      show (x :: a :: r.eraseIdx k).Perm (a :: r)
      exact (List.Perm.swap a x _).trans (q.cons a)
theorem map_eraseIdx {α β : Type} (f : α → β) (xs : List α) (k : Nat) : (xs.map f).eraseIdx k = (xs.eraseIdx k).map f := by
  induction xs generalizing k with
  | nil => rfl
  | cons a r ih =>
    cases k with
    | zero => rfl
    | succ k => show f a :: (r.map f).eraseIdx k = _; rw [ih]; rfl
theorem rng_get {lo : Int} {n i : Nat} {x : D} (h : (rangeD lo n)[i]? = some x) : i < n ∧ x = .int (lo + (i : Int)) := by
  unfold rangeD at h
  rw [List.getElem?_map] at h
  cases e : (List.range n)[i]? with
  | none => rw [e] at h; cases h
  | some j =>
    rw [e] at h
    obtain ⟨h1, h2⟩ := List.getElem?_eq_some_iff.mp e
    rw [List.getElem_range] at h2
    subst h2
    cases h
    exact ⟨by simpa using h1, rfl⟩
theorem rng_len {lo : Int} {n : Nat} : (rangeD lo n).length = n := by unfold rangeD; rw [List.length_map, List.length_range]
theorem put_eq {w1 w : W} {k : Nat} {p : Addr} {o : MO} (hn : w1.n = w.n + k) (hm : w1.m = updM w.m p o) (he : w1.e = w.e := by rfl) : w1 = (w.tick k).put p o := by
  cases w1; cases w; cases hm; cases he; cases hn; rfl
theorem put_tick {w : W} {j k : Nat} {p : Addr} {o o' : MO} : (((w.tick j).put p o).tick k).put p o' = (w.tick (j + k)).put p o' := by
  refine put_eq ?_ ?_
  · show w.n + j + k = w.n + (j + k); omega
  · exact updM_upd
theorem lt_sz {n : Nat} (h : n ≤ 1000000) : n < sizeLine := Nat.lt_of_le_of_lt h (by rw [sizeLine_eq]; decide)
theorem le_sz {n : Nat} (h : n ≤ 1000000) : n ≤ sizeLine := Nat.le_of_lt (lt_sz h)
theorem mK_one (f : Option Str → D) (s : Str) (a : Option Str) : mK f [(s, a)] = [(Sum.inr s, f a)] := rfl
theorem dkeys_len (f : α → D) (t : Tab α) : (dkeys (mK f t)).length = t.length := by rw [dkeys_mK, List.length_map, len_keysN]
/-- a dict's value by a key that is there -/
theorem sub_key {α : Type} {f : α → D} {t : Tab α} {s : Str} {a : α} (h : lk t s = some a) : valD (mK f t) (.inr s) = some (f a) := by rw [valD_mK, h]; rfl
theorem ifne {b : Bool} {A B : Prop} (h1 : b = false → A) (h2 : b = true → B) : if (true ^^ b) = true then A else B := by
  cases b with
  | true => exact h2 rfl
  | false => exact h1 rfl
theorem keys_list {α : Type} (f : α → D) (t : Tab α) : ((mK f t).map fun kv => kD kv.1) = (keysN t).map .str := dkeys_mK f t
theorem W.as_m {w w0 : W} : (w.as w0).m = w.m := rfl
theorem W.as_n {w w0 : W} : (w.as w0).n = w.n := rfl
theorem W.as_e {w w0 : W} : (w.as w0).e = w0.e := rfl
theorem W.inn_m {w : W} {env : En} : (w.inn env).m = w.m := rfl
theorem W.inn_n {w : W} {env : En} : (w.inn env).n = w.n := rfl
theorem W.inn_e {w : W} {env : En} : (w.inn env).e = fun _ => w.e env := rfl
theorem W.tick_e {w : W} {k : Nat} : (w.tick k).e = w.e := rfl
theorem W.put_m {w : W} {a : Addr} {o : MO} : (w.put a o).m = updM w.m a o := rfl
theorem W.put_e {w : W} {a : Addr} {o : MO} : (w.put a o).e = w.e := rfl
theorem W.del_m {w : W} {a : Addr} : (w.del a).m = delM w.m a := rfl
theorem W.del_n {w : W} {a : Addr} : (w.del a).n = w.n := rfl
theorem W.del_e {w : W} {a : Addr} : (w.del a).e = w.e := rfl
theorem at_tick {w1 w : W} {Q : D → W → Prop} {d : D} (k : Nat) (hn : w1.n = w.n + k) (q : Q d (w.tick k)) (hm : w1.m = w.m := by simp only [W.as_m, W.inn_m, W.tick_m]) (he : w1.e = w.e := by simp only [W.as_e, W.inn_e, W.tick_e]) : Q d w1 := by
  rw [tick_eq hn hm he]; exact q
/-- a dict that stands for a set of texts -/
def stK (xs : List Str) : List (Key × D) := xs.map fun s => (Sum.inr s, .bl true)
def addS (xs : List Str) (s : Str) : List Str := if s ∈ xs then xs else xs ++ [s]
theorem stK_mK (xs : List Str) : stK xs = mK (fun _ : Unit => .bl true) (xs.map fun s => (s, ())) := by
  unfold stK mK
  rw [List.map_map]
  rfl
theorem putD_stK (xs : List Str) (s : Str) : putD (stK xs) (.inr s) (.bl true) = stK (addS xs s) := by
  have hk : keysN (xs.map fun s => (s, ())) = xs := by
    unfold keysN
    rw [List.map_map]
    exact List.map_id _
  rw [stK_mK, stK_mK, putD_mK (fun _ : Unit => .bl true) _ s ()]
  congr 1
  unfold putN addS
  rw [hk]
  by_cases h : s ∈ xs
  · rw [if_pos h, if_pos h]
    conv => rhs; rw [← List.map_id (xs.map fun s => (s, ()))]
    refine List.map_congr_left fun e _ => ?_
    split <;> rfl
  · rw [if_neg h, if_neg h, List.map_append]
    rfl
theorem addS_mem {xs : List Str} {s t : Str} : t ∈ addS xs s ↔ t ∈ xs ∨ t = s := by
  unfold addS
  by_cases h : s ∈ xs
  · rw [if_pos h]
    exact ⟨.inl, fun z => z.elim id fun e => e ▸ h⟩
  · rw [if_neg h, List.mem_append, List.mem_singleton]
theorem addS_nodup {xs : List Str} {s : Str} (nd : xs.Nodup) : (addS xs s).Nodup := by
  unfold addS
  by_cases h : s ∈ xs
  · rw [if_pos h]; exact nd
  · rw [if_neg h, List.nodup_append]
    refine ⟨nd, by simp, fun x hx y hy => ?_⟩
    rw [List.mem_singleton.mp hy]
    exact fun z => h (z ▸ hx)
theorem addS_len {xs : List Str} {s : Str} : (addS xs s).length ≤ xs.length + 1 := by
  unfold addS
  split
  · omega
  · simp
theorem stK_keys (xs : List Str) : (stK xs).map (·.1) = xs.map Sum.inr := by
  unfold stK
  rw [List.map_map]
  rfl
theorem stK_len (xs : List Str) : (stK xs).length = xs.length := by unfold stK; rw [List.length_map]
theorem merge_new {kvs : List (Key × D)} (nd : (kvs.map (·.1)).Nodup) : mergeD [] kvs = kvs := by
  have key : ∀ (more acc : List (Key × D)), ((acc ++ more).map (·.1)).Nodup → more.foldl (fun acc kv => putD acc kv.1 kv.2) acc = acc ++ more := by
    intro more
    induction more with
    | nil => intro acc _; simp
    | cons kv r ih =>
      intro acc h
      rw [List.foldl_cons, putD_new]
      · rw [ih]
        · simp
        · simpa using h
      · intro x hx e
        rw [List.map_append, List.nodup_append] at h
        exact h.2.2 x.1 (List.mem_map.mpr ⟨x, hx, rfl⟩) kv.1 (by simp) e
  exact key kvs [] nd
theorem disp_new {kvs : List (Key × D)} {w : W} {Q : DK} (nd : (kvs.map (·.1)).Nodup) (q : Q (.dic kvs) w) : finD (mergeD [] kvs) w Q := by
  unfold finD
  rw [merge_new nd]
  exact q
theorem dispM_new {kvs : List (Key × D)} {w : W} {Q : DK} (nd : (kvs.map (·.1)).Nodup) (q : ∀ p, w.m p = none → Q (.ref p) (w.put p (.dic kvs))) : finDM (mergeD [] kvs) w Q := by
  unfold finDM
  rw [merge_new nd]
  exact q
section
variable {gd : DTG} {tt : DTT} {te : DTE} {vs : List Nat} {env : En} {w : W} {Q : DK} {fin : List D → W → DK → Prop}
/-- [g k for k in range(..)] -/
theorem lc_rng {lo : Int} {n : Nat} (g : Nat → D) (hz : n ≤ 1000000) (h : ∀ k, k < n → ∀ R : DK, R (g k) w.mute → gd (.int (lo + (k : Int))) (wipeD env vs) w.mute fun env2 w3 => te env2 w3 R) (hf : fin ((List.range n).map g) w Q) :
    (rangeD lo n).length ≤ sizeLine ∧ ∃ Pv : Nat → List D → W → Prop, Pv 0 [] w ∧
      (∀ i x acc w2, (rangeD lo n)[i]? = some x → acc.length ≤ i → Pv i acc w2 → gd x (wipeD env vs) w2.mute fun env2 w3 => dYes env2 w3 fun b w4 => if b = true then te env2 w4 fun y w5 => Pv (i + 1) (acc ++ [y]) (w5.as w) else Pv (i + 1) acc (w4.as w)) ∧
      ∀ acc w2, Pv (rangeD lo n).length acc w2 → fin acc w2 Q := by
  refine lc_map (items := rangeD lo n) (fun d => match d with | .int i => g (i - lo).toNat | _ => .non) (by rw [rng_len]; exact le_sz hz) (fun x hx R hR => ?_) ?_
  · obtain ⟨k, hk, rfl⟩ := List.mem_map.mp hx
    refine h k (List.mem_range.mp hk) R ?_
    have e : (lo + (k : Int) - lo).toNat = k := by omega
    have hR : R (g (lo + (k : Int) - lo).toNat) w.mute := hR
    rw [e] at hR
    exact hR
  · have e : (rangeD lo n).map (fun d => match d with | .int i => g (i - lo).toNat | _ => .non) = (List.range n).map g := by
      unfold rangeD
      rw [List.map_map]
      refine List.map_congr_left fun k _ => ?_
      show g (lo + (k : Int) - lo).toNat = g k
      congr 1
      omega
    rw [e]
    exact hf
/-- [.. for k in range(..)] with draws -/
theorem lc_rngP {lo : Int} {n : Nat} (t : Nat) (Rk : Nat → D → Prop) (hz : n ≤ 1000000) (h : ∀ k, k < n → ∀ j, j ≤ k * t → ∀ R : DK, (∀ d j', Rk k d → j' ≤ t → R d (w.tick (j + j')).mute) → gd (.int (lo + (k : Int))) (wipeD env vs) (w.tick j).mute fun env2 w3 => te env2 w3 R)
    (hf : ∀ acc j, acc.length = n → (∀ k x, acc[k]? = some x → Rk k x) → j ≤ n * t → fin acc (w.tick j) Q) :
    (rangeD lo n).length ≤ sizeLine ∧ ∃ Pv : Nat → List D → W → Prop, Pv 0 [] w ∧
      (∀ i x acc w2, (rangeD lo n)[i]? = some x → acc.length ≤ i → Pv i acc w2 → gd x (wipeD env vs) w2.mute fun env2 w3 => dYes env2 w3 fun b w4 => if b = true then te env2 w4 fun y w5 => Pv (i + 1) (acc ++ [y]) (w5.as w) else Pv (i + 1) acc (w4.as w)) ∧
      ∀ acc w2, Pv (rangeD lo n).length acc w2 → fin acc w2 Q := by
  refine ⟨by rw [rng_len]; exact le_sz hz, fun i acc w2 => ∃ j, j ≤ i * t ∧ w2 = w.tick j ∧ acc.length = i ∧ ∀ k x, acc[k]? = some x → Rk k x, ⟨0, Nat.zero_le _, rfl, rfl, fun k x hx => (by simp at hx)⟩, ?_, ?_⟩
  · rintro i x acc w2 hx _ ⟨j, hj, rfl, hl, hp⟩
    obtain ⟨hi, rfl⟩ := rng_get hx
    refine h i hi j hj (fun y w5 => ∃ j, j ≤ (i + 1) * t ∧ w5.as w = w.tick j ∧ (acc ++ [y]).length = i + 1 ∧ ∀ k x, (acc ++ [y])[k]? = some x → Rk k x) fun d j' hd hj' => ?_
    refine ⟨j + j', by rw [Nat.succ_mul]; omega, rfl, by simp [hl], fun k z hz => ?_⟩
    by_cases hk : k < acc.length
    · rw [List.getElem?_append_left hk] at hz
      exact hp k z hz
    · have lt := (List.getElem?_eq_some_iff.mp hz).1
      have ek : k = acc.length := by
        rw [List.length_append, List.length_singleton] at lt
        omega
      subst ek
      simp at hz
      subst hz
      rw [hl]
      exact hd
  · rintro acc w2 ⟨j, hj, rfl, hl, hp⟩
    rw [rng_len] at hl hj
    exact hf acc j hl hp hj
end
theorem pairsOf_mK {α : Type} (f : α → D) : ∀ t : Tab α, pairsOf (t.map fun e => .tup [.str e.1, f e.2]) = some (mK f t)
  | [] => rfl
  | e :: r => by
    rw [List.map_cons]
    show ((keyOf (.str e.1)).bind fun q => (pairsOf (r.map fun e => .tup [.str e.1, f e.2])).map ((q, f e.2) :: ·)) = _
    rw [pairsOf_mK f r]
    rfl
theorem mK_nodup {α : Type} (f : α → D) {t : Tab α} (nd : (keysN t).Nodup) : ((mK f t).map (·.1)).Nodup := by
  rw [mK_keys]
  exact List.Pairwise.map _ (fun a b hne he => hne (Sum.inr.inj he)) nd
theorem dict_pairs {α : Type} {f : α → D} {t : Tab α} {w : W} (nd : (keysN t).Nodup) : dictIn (.lst (t.map fun e => .tup [.str e.1, f e.2])) w (mK f t) :=
  ⟨_, pairsOf_mK f t, (merge_new (mK_nodup f nd)).symm⟩
/-- texts by number -/
def nN (p : Str) (k : Nat) : Str := p ++ toString (k : Int)
/-- the state behind a new object that is held fast at once -/
theorem mk_st {w1 : W} {x : Addr} {o o' : MO} {env : En} (hx : w1.m x = none) : ((((w1.put x o).inn env).put x o').del x).as w1 = w1 := by
  cases w1 with
  | mk m n e =>
    show W.mk (delM (updM (updM m x o) x o') x) n e = W.mk m n e
    rw [updM_upd, delM_upd hx]

end DL
namespace DL
open PySem PySem.Spec PyProof.Rows L2
/-! tables are told by what they hold -/
section
variable {α : Type} [DecidableEq α]
theorem sub_perm {β : Type} [DecidableEq β] : ∀ {t t' : List β}, t.Nodup → (∀ e ∈ t, e ∈ t') → t.length = t'.length → t.Perm t'
  | [], t', _, _, h => by
    have : t' = [] := List.length_eq_zero_iff.mp h.symm
    rw [this]
  | e :: r, t', nd, hs, h => by
    have nd' := List.nodup_cons.mp nd
    have he : e ∈ t' := hs e (List.mem_cons_self ..)
    have p := List.perm_cons_erase he
    have ih : r.Perm (t'.erase e) := sub_perm nd'.2 (fun x hx => by
      have ne : x ≠ e := fun z => nd'.1 (z ▸ hx)
      exact (List.mem_erase_of_ne ne).mpr (hs x (List.mem_cons_of_mem _ hx))) (by
      have := p.length_eq
      simp at this h
      omega)
    exact (ih.cons e).trans p.symm
theorem nodup_of_keys {t : Tab α} (nd : (keysN t).Nodup) : t.Nodup := by
  unfold keysN at nd
  exact List.Pairwise.imp (fun h e => h (by rw [e])) (List.pairwise_map.mp nd)
theorem tab_of {t : Tab α} (nd : (keysN t).Nodup) (d : α) : t = (keysN t).map fun s => (s, (lk t s).getD d) := by
  unfold keysN
  rw [List.map_map]
  conv => lhs; rw [← List.map_id t]
  refine List.map_congr_left fun e he => ?_
  simp only [Function.comp, id]
  rw [lk_of_mem nd (a := e.2) he]
  rfl
theorem tab_ext {t t' : Tab α} (nd : (keysN t).Nodup) (hk : keysN t = keysN t') (hl : ∀ s ∈ keysN t, lk t s = lk t' s) : t = t' := by
  cases t with
  | nil =>
    cases t' with
    | nil => rfl
    | cons e r => cases hk
  | cons e0 r0 =>
    have nd' : (keysN t').Nodup := hk ▸ nd
    rw [tab_of nd e0.2, tab_of nd' e0.2, ← hk]
    refine List.map_congr_left fun s hs => ?_
    rw [hl s hs]
theorem tab_same {t t' : Tab α} (nd : (keysN t).Nodup) (nd' : (keysN t').Nodup) (st : Srt t) (st' : Srt t') (h : ∀ e ∈ t, e ∈ t') (hl : t.length = t'.length) : t = t' := by
  have p := sub_perm (nodup_of_keys nd) h hl
  have pk := perm_keys p
  refine tab_ext nd ?_ fun s _ => (lk_perm nd p s).symm
  rw [← sortT_srt st, ← sortT_srt st']
  exact sortT_eq pk
theorem EqWK_tab {f : α → D} {ok : α → Prop} (hf : ∀ a b : α, ok a → ok b → EqW 1 (f a) (f b) (decide (a = b))) (t' : Tab α) (o' : ∀ e ∈ t', ok e.2) : ∀ t : Tab α, (∀ e ∈ t, ok e.2) → EqWK 1 (mK f t') (mK f t) (t.all fun e => decide (lk t' e.1 = some e.2))
  | [], _ => .nil
  | e :: r, o => by
    have ih := EqWK_tab hf t' o' r fun x hx => o x (List.mem_cons_of_mem _ hx)
    rw [List.all_cons]
    have hv := valD_mK f t' e.1
    show EqWK 1 (mK f t') ((Sum.inr e.1, f e.2) :: mK f r) _
    cases h : lk t' e.1 with
    | none =>
      rw [h] at hv
      rw [decide_eq_false (fun z => nomatch z), Bool.false_and]
      exact .miss hv
    | some a =>
      rw [h] at hv
      have e2 : decide (some a = some e.2) = decide (e.2 = a) := by
        by_cases z : e.2 = a
        · rw [z]; simp
        · rw [decide_eq_false z, decide_eq_false (fun y => z (Option.some.inj y).symm)]
      rw [e2]
      exact .hit hv (hf e.2 a (o e (List.mem_cons_self ..)) (o' _ (lk_mem h))) ih
theorem mK_inj {f : α → D} (hi : ∀ a b, f a = f b → a = b) : ∀ {t t' : Tab α}, mK f t = mK f t' → t = t'
  | [], [], _ => rfl
  | [], _ :: _, h => by cases h
  | _ :: _, [], h => by cases h
  | (k, a) :: r, (k', a') :: r', h => by
    obtain ⟨h1, h2⟩ := List.cons.inj (show (Sum.inr k, f a) :: mK f r = (Sum.inr k', f a') :: mK f r' from h)
    have e1 := Sum.inr.inj (congrArg Prod.fst h1)
    have e2 := hi _ _ (congrArg Prod.snd h1)
    rw [mK_inj hi h2]
    rw [show k = k' from e1, show a = a' from e2]
theorem toPyK_mK {f : α → D} (hp : ∀ a, (toPy (f a)).isSome = true) : ∀ t : Tab α, (toPyK (mK f t)).isSome = true
  | [] => rfl
  | e :: r => by
    obtain ⟨p, hp'⟩ := Option.isSome_iff_exists.mp (hp e.2)
    obtain ⟨q, hq⟩ := Option.isSome_iff_exists.mp (toPyK_mK hp r)
    show (toPyK ((Sum.inr e.1, f e.2) :: mK f r)).isSome = true
    unfold toPyK
    rw [hp', hq]
    rfl
theorem tab_eqW {f : α → D} {ok : α → Prop} (hf : ∀ a b : α, ok a → ok b → EqW 1 (f a) (f b) (decide (a = b))) (hi : ∀ a b, f a = f b → a = b) (hp : ∀ a, (toPy (f a)).isSome = true) {t t' : Tab α} (nd : (keysN t).Nodup) (nd' : (keysN t').Nodup) (st : Srt t) (st' : Srt t') (o : ∀ e ∈ t, ok e.2) (o' : ∀ e ∈ t', ok e.2) :
    EqW 2 (.dic (mK f t)) (.dic (mK f t')) (decide (t = t')) := by
  have refl_ : (t.all fun e => decide (lk t e.1 = some e.2)) = true := List.all_eq_true.mpr fun e he => decide_eq_true (lk_of_mem nd he)
  have e : decide (t = t') = ((mK f t).length == (mK f t').length && t.all fun e => decide (lk t' e.1 = some e.2)) := by
    rw [Bool.eq_iff_iff, decide_eq_true_eq, Bool.and_eq_true, len_mK, len_mK]
    constructor
    · intro h
      rw [← h]
      exact ⟨by simp, refl_⟩
    · rintro ⟨h1, h2⟩
      exact tab_same nd nd' st st' (fun e he => lk_mem (of_decide_eq_true (List.all_eq_true.mp h2 e he))) (by simpa using h1)
  rw [e]
  have dk : ∀ t : Tab α, (toPy (.dic (mK f t))).isSome = true := fun t => by
    obtain ⟨q, hq⟩ := Option.isSome_iff_exists.mp (toPyK_mK hp t)
    simp [toPy, hq]
  refine .dic (fun _ => EqWK_tab hf t' o' t o) (fun h => ?_) (dk _) (dk _)
  rw [← mK_inj hi h]
  exact refl_
end
theorem word_ok {s : Str} (h : wordS s = true) : PyData.strOk s = true := by
  unfold wordS at h
  simp only [Bool.and_eq_true] at h
  have h2 := h.2
  unfold PyData.strOk
  rw [← Array.all_toList]
  refine List.all_eq_true.mpr fun c hc => ?_
  have q := of_decide_eq_true (List.all_eq_true.mp h2 c hc)
  exact (show ∀ c ∈ alnum.cps.toList, decide (c < 0x110000) = true by decide +kernel) c q
theorem sh_str {a : Str} (h : PyData.strOk a = true) : SeqAt.shaped (.str a) = true := by
  unfold SeqAt.shaped
  rw [Bool.and_eq_true]
  exact ⟨h, rfl⟩
theorem sh_strs {xs : List Str} (h : ∀ s ∈ xs, PyData.strOk s = true) : SeqAt.shaped (.tuple (xs.map .str)) = true ∧ SeqAt.shaped (.list (xs.map .str)) = true := by
  have h1 : PyData.canLayAll0 (xs.map .str) = true := by
    induction xs with
    | nil => rfl
    | cons x r ih =>
      rw [List.map_cons]
      unfold PyData.canLayAll0
      rw [ih fun s hs => h s (List.mem_cons_of_mem _ hs), Bool.and_true]
      exact h x (List.mem_cons_self ..)
  have h2 : PyData.depthAll (xs.map .str) ≤ 1 := by
    clear h h1
    induction xs with
    | nil => exact Nat.zero_le _
    | cons x r ih =>
      rw [List.map_cons]
      unfold PyData.depthAll
      exact Nat.max_le.mpr ⟨Nat.le_of_ble_eq_true rfl, ih⟩
  unfold SeqAt.shaped
  rw [Bool.and_eq_true, Bool.and_eq_true]
  exact ⟨⟨h1, decide_eq_true (by show PyData.depthAll _ + 1 ≤ 64; omega)⟩, ⟨h1, decide_eq_true (by show PyData.depthAll _ + 1 ≤ 64; omega)⟩⟩
theorem toPyL_strs (xs : List Str) : toPyL (xs.map .str) = some (xs.map .str) := by
  induction xs with
  | nil => rfl
  | cons x r ih => rw [List.map_cons, List.map_cons]; simp [toPyL, toPy, ih]
theorem toPy_tup (xs : List Str) : toPy (.tup (xs.map .str)) = some (.tuple (xs.map .str)) := by simp [toPy, toPyL_strs]
theorem toPy_lst (xs : List Str) : toPy (.lst (xs.map .str)) = some (.list (xs.map .str)) := by simp [toPy, toPyL_strs]
theorem eqv_strs : ∀ xs ys : List Str, PyData.eqvAll (xs.map .str) (ys.map .str) = decide (xs = ys)
  | [], [] => rfl
  | [], _ :: _ => rfl
  | _ :: _, [] => rfl
  | x :: r, y :: t => by
    rw [List.map_cons, List.map_cons]
    simp only [PyData.eqvAll, PyData.eqv, eqv_strs r t]
    by_cases h : x = y
    · subst h
      simp
    · simp [h]
theorem eqv_tup (xs ys : List Str) : PyData.eqv (.tuple (xs.map .str)) (.tuple (ys.map .str)) = decide (xs = ys) := by
  simp only [PyData.eqv, eqv_strs]
theorem eqv_lst (xs ys : List Str) : PyData.eqv (.list (xs.map .str)) (.list (ys.map .str)) = decide (xs = ys) := by
  simp only [PyData.eqv, eqv_strs]
theorem eqW_strs {n : Nat} {xs ys : List Str} (h1 : ∀ s ∈ xs, PyData.strOk s = true) (h2 : ∀ s ∈ ys, PyData.strOk s = true) : EqW n (.tup (xs.map .str)) (.tup (ys.map .str)) (decide (xs = ys)) := by
  rw [← eqv_tup]
  exact .dat (toPy_tup _) (toPy_tup _) (sh_strs h1).1 (sh_strs h2).1
theorem eqW_pD {n : Nat} {a b : Str × Str} (h1 : PyData.strOk a.1 = true ∧ PyData.strOk a.2 = true) (h2 : PyData.strOk b.1 = true ∧ PyData.strOk b.2 = true) : EqW n (pD a) (pD b) (decide (a = b)) := by
  have e : decide (a = b) = decide ([a.1, a.2] = [b.1, b.2]) := by
    obtain ⟨a1, a2⟩ := a
    obtain ⟨b1, b2⟩ := b
    simp
  rw [e]
  refine eqW_strs (xs := [a.1, a.2]) (ys := [b.1, b.2]) (fun s hs => ?_) fun s hs => ?_
  · simp only [List.mem_cons, List.not_mem_nil, or_false] at hs
    rcases hs with rfl | rfl
    · exact h1.1
    · exact h1.2
  · simp only [List.mem_cons, List.not_mem_nil, or_false] at hs
    rcases hs with rfl | rfl
    · exact h2.1
    · exact h2.2
theorem eqW_oD {n : Nat} {a b : Option Str} (h1 : ∀ s, a = some s → PyData.strOk s = true) (h2 : ∀ s, b = some s → PyData.strOk s = true) : EqW n (oD a) (oD b) (decide (a = b)) := by
  have key : ∀ d e : PyData, toPy (oD a) = some d → toPy (oD b) = some e → SeqAt.shaped d = true → SeqAt.shaped e = true → PyData.eqv d e = decide (a = b) → EqW n (oD a) (oD b) (decide (a = b)) := fun d e e1 e2 e3 e4 e5 => by
    rw [← e5]; exact .dat e1 e2 e3 e4
  cases a with
  | none => cases b with
    | none => exact key .none .none rfl rfl rfl rfl rfl
    | some y => exact key .none (.str y) rfl rfl rfl (sh_str (h2 y rfl)) rfl
  | some x => cases b with
    | none => exact key (.str x) .none rfl rfl (sh_str (h1 x rfl)) rfl rfl
    | some y => exact key (.str x) (.str y) rfl rfl (sh_str (h1 x rfl)) (sh_str (h2 y rfl)) (by
        simp only [PyData.eqv, Option.some.injEq]
        by_cases h : x = y
        · subst h; simp
        · simp [h])
/-- in order -/
structure Ord (P : Parts) : Prop where
  sc : Srt P.sc
  bn : Srt P.bn
  us : Srt P.us
  ou : Srt P.ou
  rn : P.rs.Nodup
  rs : P.rs.Pairwise fun a b => leT a b = true
theorem ord_sort (P : Parts) : Ord (sortP P) := ⟨srt_ascN _, srt_ascN _, srt_ascN _, srt_ascN _, (sortT_perm _).nodup_iff.mpr (nubT_nodup _), sortT_ord _⟩
def partsD (P : Parts) : D := .tup [.dic (scK P.sc), .dic (tbK P.bn), .dic (tbK P.us), .dic (tbK P.ou), .tup (P.rs.map .str)]
theorem pD_some (p : Str × Str) : (toPy (pD p)).isSome = true := rfl
theorem pD_inj {a b : Str × Str} (h : pD a = pD b) : a = b := by
  obtain ⟨a1, a2⟩ := a
  obtain ⟨b1, b2⟩ := b
  have h : D.tup [.str a1, .str a2] = D.tup [.str b1, .str b2] := h
  simp at h
  rw [h.1, h.2]
theorem oD_some (p : Option Str) : (toPy (oD p)).isSome = true := by cases p <;> rfl
theorem oD_inj {a b : Option Str} (h : oD a = oD b) : a = b := by
  cases a <;> cases b <;> simp [oD] at h ⊢ <;> exact h
theorem strs_inj {xs ys : List Str} (h : xs.map D.str = ys.map D.str) : xs = ys := by
  induction xs generalizing ys with
  | nil => cases ys with
    | nil => rfl
    | cons y t => cases h
  | cons x r ih => cases ys with
    | nil => cases h
    | cons y t =>
      obtain ⟨h1, h2⟩ := List.cons.inj h
      rw [ih h2, D.str.inj h1]
theorem dic_some {α : Type} [DecidableEq α] {f : α → D} (hp : ∀ a, (toPy (f a)).isSome = true) (t : Tab α) : ∃ p, toPy (.dic (mK f t)) = some p := by
  obtain ⟨q, hq⟩ := Option.isSome_iff_exists.mp (toPyK_mK hp t)
  exact ⟨.dict q, by simp [toPy, hq]⟩
theorem parts_some (P : Parts) : (toPy (partsD P)).isSome = true := by
  obtain ⟨p1, h1⟩ := dic_some oD_some P.sc
  obtain ⟨p2, h2⟩ := dic_some pD_some P.bn
  obtain ⟨p3, h3⟩ := dic_some pD_some P.us
  obtain ⟨p4, h4⟩ := dic_some pD_some P.ou
  have h5 := toPy_tup P.rs
  have e : toPyL [.dic (scK P.sc), .dic (tbK P.bn), .dic (tbK P.us), .dic (tbK P.ou), .tup (P.rs.map .str)] = some [p1, p2, p3, p4, .tuple (P.rs.map .str)] := by
    simp only [toPyL, h1, h2, h3, h4, h5]
    rfl
  unfold partsD
  rw [toPy, e]
  rfl
theorem parts_eqW {P P' : Parts} (o : WF P) (o' : WF P') (s : Ord P) (s' : Ord P') : EqW 3 (partsD P) (partsD P') (decide (P = P')) := by
  have e : decide (P = P') = (decide (P.sc = P'.sc) && (decide (P.bn = P'.bn) && (decide (P.us = P'.us) && (decide (P.ou = P'.ou) && (decide (P.rs = P'.rs) && true))))) := by
    obtain ⟨a1, a2, a3, a4, a5⟩ := P
    obtain ⟨b1, b2, b3, b4, b5⟩ := P'
    simp
  have tb : ∀ {t : Tb}, (∀ e ∈ t, wordS e.2.1 = true ∧ wordS e.2.2 = true) → ∀ e ∈ t, PyData.strOk e.2.1 = true ∧ PyData.strOk e.2.2 = true := fun h e he => ⟨word_ok (h e he).1, word_ok (h e he).2⟩
  have uw : ∀ {P : Parts}, WF P → ∀ e ∈ P.us, wordS e.2.1 = true ∧ wordS e.2.2 = true := fun o e he => by
    obtain ⟨_, h1, b, h2, _⟩ := o.uwd e he
    exact ⟨o.sc.wd _ h1, keys_word o (lk_key h2)⟩
  have bw : ∀ {P : Parts}, WF P → ∀ e ∈ P.bn, wordS e.2.1 = true ∧ wordS e.2.2 = true := fun o e he => ⟨o.sc.wd _ (o.bwd e he).2.2, (o.bwd e he).2.1⟩
  have ow : ∀ {P : Parts}, WF P → ∀ e ∈ P.ou, wordS e.2.1 = true ∧ wordS e.2.2 = true := fun o e he => ⟨o.sc.wd _ (o.owd e he).2.2, (o.owd e he).2.1⟩
  have sw : ∀ {P : Parts}, WF P → ∀ e ∈ P.sc, ∀ y, e.2 = some y → PyData.strOk y = true := fun o e he y hy => word_ok (o.sc.wd y (o.sc.cl e.1 y (lk_of_mem o.sc.nd (by rw [← hy]; exact he))))
  rw [e]
  refine .tup (.cons (tab_eqW (ok := fun a => ∀ y, a = some y → PyData.strOk y = true) (fun a b => eqW_oD) (fun a b => oD_inj) oD_some o.sc.nd o'.sc.nd s.sc s'.sc (sw o) (sw o')) (.cons (tab_eqW (ok := fun a : Str × Str => PyData.strOk a.1 = true ∧ PyData.strOk a.2 = true) (fun a b => eqW_pD) (fun a b => pD_inj) pD_some o.bnd o'.bnd s.bn s'.bn (tb (bw o)) (tb (bw o')))
    (.cons (tab_eqW (ok := fun a : Str × Str => PyData.strOk a.1 = true ∧ PyData.strOk a.2 = true) (fun a b => eqW_pD) (fun a b => pD_inj) pD_some o.usd o'.usd s.us s'.us (tb (uw o)) (tb (uw o'))) (.cons (tab_eqW (ok := fun a : Str × Str => PyData.strOk a.1 = true ∧ PyData.strOk a.2 = true) (fun a b => eqW_pD) (fun a b => pD_inj) pD_some o.oud o'.oud s.ou s'.ou (tb (ow o)) (tb (ow o')))
      (.cons (eqW_strs (fun s hs => word_ok (o.rwd s hs)) fun s hs => word_ok (o'.rwd s hs)) .nil))))) (fun h => ?_) (parts_some P) (parts_some P')
  simp only [List.cons.injEq, D.dic.injEq, D.tup.injEq, and_true] at h
  obtain ⟨h1, h2, h3, h4, h5⟩ := h
  rw [mK_inj (fun a b => oD_inj) h1, mK_inj (fun a b => pD_inj) h2, mK_inj (fun a b => pD_inj) h3, mK_inj (fun a b => pD_inj) h4, strs_inj h5]
  simp
theorem eq_strsL {neg : Bool} {xs ys : List Str} {w : W} {Q : DK} (h1 : ∀ s ∈ xs, PyData.strOk s = true) (h2 : ∀ s ∈ ys, PyData.strOk s = true) (q : Q (.bl (neg ^^ decide (xs = ys))) w) : eqR neg (.lst (xs.map .str)) (.lst (ys.map .str)) w Q := by
  rw [← eqv_lst] at q
  exact ⟨_, _, toPy_lst xs, toPy_lst ys, (sh_strs h1).2, (sh_strs h2).2, q⟩
theorem eq_strsT {neg : Bool} {xs ys : List Str} {w : W} {Q : DK} (h1 : ∀ s ∈ xs, PyData.strOk s = true) (h2 : ∀ s ∈ ys, PyData.strOk s = true) (q : Q (.bl (neg ^^ decide (xs = ys))) w) : eqR neg (.tup (xs.map .str)) (.tup (ys.map .str)) w Q := by
  rw [← eqv_tup] at q
  exact ⟨_, _, toPy_tup xs, toPy_tup ys, (sh_strs h1).1, (sh_strs h2).1, q⟩
theorem words_sOk {xs : List Str} (h : ∀ s ∈ xs, wordS s = true) : ∀ s ∈ xs, PyData.strOk s = true := fun s hs => word_ok (h s hs)
/-! what repr takes -/
/-- plain data without dicts, of depth at most k and weight at most n -/
structure Lay (k n : Nat) (p : PyData) : Prop where
  lay : p.canLay0 = true
  dp : p.depth ≤ k
  wt : p.weight ≤ n
  is : p.intsShort 13 = true
  sh : p.showable = true
theorem Lay.show {k n : Nat} {p : PyData} (h : Lay k n p) (hk : k ≤ 60) (hn : n ≤ 2 ^ 20) : ShowOk p := by
  have l : p.layable0 = true := by
    unfold PyData.layable0
    rw [h.lay, Bool.true_and, Bool.and_eq_true]
    exact ⟨decide_eq_true (by have := h.dp; omega), decide_eq_true (by have := h.wt; omega)⟩
  exact ⟨h.sh, by have := h.dp; omega, PyData.shown_fits_of_layable0 (B := 13) (by decide) (by decide) l h.is, fun z => by rw [PyData.hasDict_of_canLay p h.lay] at z; cases z⟩
theorem Lay.shaped {k n : Nat} {p : PyData} (h : Lay k n p) (hk : k ≤ 64) : SeqAt.shaped p = true := by
  unfold SeqAt.shaped
  rw [h.lay, Bool.true_and]
  exact decide_eq_true (by have := h.dp; omega)
theorem Lay.mono {k n k' n' : Nat} {p : PyData} (h : Lay k n p) (hk : k ≤ k') (hn : n ≤ n') : Lay k' n' p := ⟨h.lay, Nat.le_trans h.dp hk, Nat.le_trans h.wt hn, h.is, h.sh⟩
theorem Lay.str {s : Str} (h : PyData.strOk s = true) : Lay 0 s.length (.str s) := ⟨h, Nat.le_refl _, Nat.le_refl _, rfl, rfl⟩
theorem Lay.word {s : Str} (h : wordS s = true) : Lay 0 8 (.str s) := (Lay.str (word_ok h)).mono (Nat.le_refl _) (word_len h)
theorem Lay.non : Lay 0 0 .none := ⟨rfl, Nat.le_refl _, Nat.le_refl _, rfl, rfl⟩
theorem Lay.bl {b : Bool} : Lay 0 0 (.bool b) := ⟨rfl, Nat.le_refl _, Nat.le_refl _, rfl, rfl⟩
structure LayAll (k n : Nat) (ps : List PyData) : Prop where
  lay : PyData.canLayAll0 ps = true
  dp : PyData.depthAll ps ≤ k
  wt : PyData.weightAll ps ≤ ps.length * (n + 1)
  is : PyData.intsShortAll 13 ps = true
  sh : PyData.showableAll ps = true
theorem LayAll.of {k n : Nat} : ∀ {ps : List PyData}, (∀ p ∈ ps, Lay k n p) → LayAll k n ps
  | [], _ => ⟨rfl, Nat.zero_le _, Nat.zero_le _, rfl, rfl⟩
  | p :: r, h => by
    have h1 := h p (List.mem_cons_self ..)
    have ih := LayAll.of fun q hq => h q (List.mem_cons_of_mem _ hq)
    refine ⟨?_, Nat.max_le.mpr ⟨h1.dp, ih.dp⟩, ?_, ?_, ?_⟩
    · unfold PyData.canLayAll0; rw [h1.lay, ih.lay]; rfl
    · unfold PyData.weightAll
      have := h1.wt
      have := ih.wt
      rw [List.length_cons, Nat.succ_mul]
      omega
    · unfold PyData.intsShortAll; rw [h1.is, ih.is]; rfl
    · unfold PyData.showableAll; rw [h1.sh, ih.sh]; rfl
theorem Lay.tup {k n : Nat} {ps : List PyData} (h : ∀ p ∈ ps, Lay k n p) : Lay (k + 1) (ps.length * (n + 1)) (.tuple ps) :=
  have a := LayAll.of h
  ⟨a.lay, Nat.succ_le_succ a.dp, a.wt, a.is, a.sh⟩
theorem Lay.lst {k n : Nat} {ps : List PyData} (h : ∀ p ∈ ps, Lay k n p) : Lay (k + 1) (ps.length * (n + 1)) (.list ps) :=
  have a := LayAll.of h
  ⟨a.lay, Nat.succ_le_succ a.dp, a.wt, a.is, a.sh⟩
theorem lay_words {xs : List Str} (h : ∀ s ∈ xs, wordS s = true) : Lay 1 (xs.length * 9) (.tuple (xs.map .str)) := by
  have := Lay.tup (k := 0) (n := 8) (ps := xs.map PyData.str) fun p hp => by
    obtain ⟨s, hs, rfl⟩ := List.mem_map.mp hp
    exact Lay.word (h s hs)
  rw [List.length_map] at this
  exact this
theorem show_words {xs : List Str} (h : ∀ s ∈ xs, wordS s = true) (hl : xs.length ≤ 10000) : ShowOk (.tuple (xs.map .str)) := (lay_words h).show (by decide) (by omega)

end DL
namespace DL
open PySem PySem.Spec PyProof.Rows L2
/-! drawn trees of scopes: each behind its parent -/
inductive OrdSc : Sc → Prop
  | root (r : Str) : OrdSc [(r, none)]
  | snoc {sc : Sc} {s p : Str} : OrdSc sc → s ∉ keysN sc → p ∈ keysN sc → OrdSc (sc ++ [(s, some p)])
theorem wayN_old {sc : Sc} {s p : Str} (cl : ∀ t q, lk sc t = some (some q) → q ∈ keysN sc) : ∀ (n : Nat) (t : Str), t ∈ keysN sc → wayN (sc ++ [(s, some p)]) n t = wayN sc n t
  | 0, _, _ => rfl
  | n + 1, t, ht => by
    obtain ⟨a, ha⟩ := lk_some ht
    have e : lk (sc ++ [(s, some p)]) t = some a := by rw [lk_append, ha]; rfl
    unfold wayN
    rw [e, ha]
    cases a with
    | none => rfl
    | some q =>
      show t :: wayN (sc ++ [(s, some p)]) n q = t :: wayN sc n q
      rw [wayN_old cl n q (cl t q ha)]
structure OrdCore (sc : Sc) : Prop where
  nd : (keysN sc).Nodup
  ln : 1 ≤ sc.length
  cl : ∀ s p, lk sc s = some (some p) → p ∈ keysN sc
  rt : ∃ r, lk sc r = some none ∧ ∀ s ∈ keysN sc, ∃ pre, wayN sc (sc.length - 1) s = pre ++ [r]
theorem OrdSc.core {sc : Sc} (h : OrdSc sc) : OrdCore sc := by
  induction h with
  | root r =>
    refine ⟨by simp [keysN], Nat.le_refl _, fun s p h => ?_, r, by rw [lk_cons]; simp, fun s hs => ?_⟩
    · rw [lk_cons] at h
      split at h
      · cases h
      · cases h
    · simp [keysN] at hs
      subst hs
      exact ⟨[], rfl⟩
  | @snoc sc s p _ hs hp ih =>
    obtain ⟨r, hr, hw⟩ := ih.rt
    have l1 : (sc ++ [(s, some p)]).length - 1 = sc.length := by simp
    have old : ∀ t ∈ keysN sc, ∃ pre, wayN (sc ++ [(s, some p)]) sc.length t = pre ++ [r] := fun t ht => by
      obtain ⟨pre, e⟩ := hw t ht
      exact ⟨pre, by rw [wayN_old ih.cl _ _ ht]; exact wayN_more hr e _ (by omega)⟩
    have new : lk (sc ++ [(s, some p)]) s = some (some p) := by
      rw [lk_append, lk_none hs, lk_cons, if_pos rfl]; rfl
    refine ⟨?_, by simp, fun t q h => ?_, r, by rw [lk_append, hr]; rfl, fun t ht => ?_⟩
    · rw [keysN_append, List.nodup_append]
      refine ⟨ih.nd, by simp [keysN], fun x hx y hy => ?_⟩
      simp [keysN] at hy
      subst hy
      exact fun z => hs (z ▸ hx)
    · rw [keysN_append]
      refine List.mem_append_left _ ?_
      rw [lk_append] at h
      cases e : lk sc t with
      | none =>
        rw [e, lk_cons] at h
        split at h
        · cases h; exact hp
        · cases h
      | some a =>
        rw [e] at h
        cases h
        exact ih.cl t q e
    · rw [l1]
      rw [keysN_append] at ht
      rcases List.mem_append.mp ht with ht | ht
      · exact old t ht
      · simp [keysN] at ht
        subst ht
        have := ih.ln
        obtain ⟨m, e⟩ : ∃ m, sc.length = m + 1 := ⟨sc.length - 1, by omega⟩
        obtain ⟨pre, hpre⟩ := hw p hp
        rw [e]
        refine ⟨t :: pre, ?_⟩
        show t :: (match lk (sc ++ [(t, some p)]) t with | some (some y) => wayN (sc ++ [(t, some p)]) m y | _ => []) = _
        rw [new]
        show t :: wayN (sc ++ [(t, some p)]) m p = _
        rw [wayN_old ih.cl _ _ hp]
        rw [e] at hpre
        rw [show m + 1 - 1 = m from rfl] at hpre
        rw [hpre]
        rfl
theorem OrdSc.ok {sc : Sc} (h : OrdSc sc) (hw : ∀ s ∈ keysN sc, wordS s = true) : ScOk sc := by
  have c := h.core
  obtain ⟨r, hr, hk⟩ := c.rt
  refine ⟨c.nd, hw, c.cl, r, hr, fun s hs => ?_⟩
  obtain ⟨pre, e⟩ := hk s hs
  exact ⟨pre, wayN_more hr e _ (by omega)⟩
def poolN : List Str := ["top", "f", "g", "h", "a", "zz", "s1", "in"]
def bindN : List Str := ["b1", "b2", "b3", "b4", "a", "f", "top", "z"]
def useN : List Str := ["u1", "u2", "u3", "x", "a", "u6", "u7"]
def outW : List Str := ["x", "abcdefg1", "abcdefg2", "w", "a", "b"]
def outN : List Str := ["o1", "o2", "b1", "top", "w"]
/-- what the drawn names and words are -/
theorem poolN_wd : ∀ s ∈ poolN, wordS s = true := by decide +kernel
theorem bindN_wd : ∀ s ∈ bindN, wordS s = true := by decide +kernel
theorem useN_wd : ∀ s ∈ useN, wordS s = true := by decide +kernel
theorem outN_wd : ∀ s ∈ outN, wordS s = true := by decide +kernel
structure BnDr (sc : Sc) (bn : Tb) : Prop where
  nd : (keysN bn).Nodup
  ky : ∀ s ∈ keysN bn, s ∈ bindN
  vl : ∀ e ∈ bn, e.2.1 ∈ keysN sc ∧ (e.2.2 = "x" ∨ e.2.2 = "abcdefg1" ∨ e.2.2 = "abcdefg2")
structure UsDr (sc : Sc) (bn us : Tb) : Prop where
  nd : (keysN us).Nodup
  ky : ∀ s ∈ keysN us, s ∈ useN
  vl : ∀ e ∈ us, e.2.1 ∈ keysN sc ∧ ∃ b, lk bn e.2.2 = some b ∧ b.1 ∈ way sc e.2.1
structure OuDr (sc : Sc) (ou : Tb) : Prop where
  nd : (keysN ou).Nodup
  ky : ∀ s ∈ keysN ou, s ∈ outN
  vl : ∀ e ∈ ou, e.2.1 ∈ keysN sc ∧ e.2.2 ∈ outW
def resN : List (List Str) := [[], [], ["if"], ["abcdefg1", "if"], ["a", "abcdefg2", "if", "while"], ["a1", "abcdefg1", "b", "w"]]
/-- parts as the laws draw them -/
structure Drawn (P : Parts) : Prop where
  sc : OrdSc P.sc
  sk : ∀ s ∈ keysN P.sc, s ∈ poolN
  bn : BnDr P.sc P.bn
  us : UsDr P.sc P.bn P.us
  ou : OuDr P.sc P.ou
  rs : P.rs ∈ resN
theorem Drawn.scOk {P : Parts} (d : Drawn P) : ScOk P.sc := d.sc.ok fun s hs => poolN_wd s (d.sk s hs)
theorem Drawn.sizes {P : Parts} (d : Drawn P) : P.sc.length ≤ 8 ∧ P.bn.length ≤ 8 ∧ P.us.length ≤ 7 ∧ P.ou.length ≤ 5 ∧ P.rs.length ≤ 4 := by
  refine ⟨?_, ?_, ?_, ?_, ?_⟩
  · rw [← len_keysN]; exact len_sub d.scOk.nd d.sk
  · rw [← len_keysN]; exact len_sub d.bn.nd d.bn.ky
  · rw [← len_keysN]; exact len_sub d.us.nd d.us.ky
  · rw [← len_keysN]; exact len_sub d.ou.nd d.ou.ky
  · exact (show ∀ r ∈ resN, r.length ≤ 4 by decide) P.rs d.rs
theorem bnDr_wd {sc : Sc} {bn : Tb} (d : BnDr sc bn) : ∀ e ∈ bn, wordS e.1 = true ∧ wordS e.2.2 = true ∧ e.2.1 ∈ keysN sc := fun e he => by
  obtain ⟨h1, h2⟩ := d.vl e he
  refine ⟨bindN_wd _ (d.ky _ (key_of he)), ?_, h1⟩
  rcases h2 with h2 | h2 | h2 <;> rw [h2] <;> decide +kernel
theorem Drawn.wf {P : Parts} (d : Drawn P) : WF P := by
  obtain ⟨z1, z2, z3, z4, z5⟩ := d.sizes
  refine ⟨d.scOk, d.bn.nd, bnDr_wd d.bn, d.us.nd, fun e he => ?_, d.ou.nd, fun e he => ?_, fun s hs hu => ?_, ?_, by omega, by omega, by omega, by omega, by omega⟩
  · obtain ⟨h1, h2⟩ := d.us.vl e he
    exact ⟨useN_wd _ (d.us.ky _ (key_of he)), h1, h2⟩
  · obtain ⟨h1, h2⟩ := d.ou.vl e he
    exact ⟨outN_wd _ (d.ou.ky _ (key_of he)), (show ∀ s ∈ outW, wordS s = true by decide +kernel) _ h2, h1⟩
  · exact (show ∀ s ∈ outN, s ∉ useN by decide +kernel) s (d.ou.ky s hs) (d.us.ky s hu)
  · exact (show ∀ r ∈ resN, ∀ s ∈ r, wordS s = true by decide +kernel) P.rs d.rs
theorem put_dr {α : Type} {t : Tab α} {s : Str} {a : α} {P : Str × α → Prop} (h : ∀ e ∈ t, P e) (hn : P (s, a)) (hs : s ∉ keysN t) : ∀ e ∈ putN t s a, P e := by
  rw [putN_new hs]
  intro e he
  rcases List.mem_append.mp he with he | he
  · exact h e he
  · rw [List.mem_singleton.mp he]; exact hn
theorem take_new {xs : List Str} {i : Nat} {x : Str} (nd : xs.Nodup) (h : xs[i]? = some x) : x ∉ xs.take i := by
  intro hm
  obtain ⟨j, hj, e⟩ := List.mem_take_iff_getElem.mp hm
  have lt := (List.getElem?_eq_some_iff.mp h).1
  have := (List.getElem?_inj (i := j) (j := i) (by omega) nd).mp (by rw [List.getElem?_eq_getElem (by omega), h, e])
  omega
theorem take_more {xs : List Str} {i : Nat} {x : Str} (h : xs[i]? = some x) : xs.take (i + 1) = xs.take i ++ [x] := by
  rw [List.take_succ, h]; rfl
theorem four : ∀ {e : Int}, 0 ≤ e → e < 4 → ∃ s : Str, (s = "x" ∨ s = "abcdefg1" ∨ s = "abcdefg2") ∧ atI [D.str "x", .str "abcdefg1", .str "x", .str "abcdefg2"] e = some (.str s) := by
  intro e h0 h1
  have : e = 0 ∨ e = 1 ∨ e = 2 ∨ e = 3 := by omega
  rcases this with rfl | rfl | rfl | rfl
  · exact ⟨"x", .inl rfl, rfl⟩
  · exact ⟨"abcdefg1", .inr (.inl rfl), rfl⟩
  · exact ⟨"x", .inl rfl, rfl⟩
  · exact ⟨"abcdefg2", .inr (.inr rfl), rfl⟩
theorem six : ∀ {e : Int}, 0 ≤ e → e < 6 → ∃ k : Nat, k ≤ 5 ∧ atI [D.int 0, .int 0, .int 1, .int 2, .int 3, .int 5] e = some (.int k) := by
  intro e h0 h1
  have : e = 0 ∨ e = 1 ∨ e = 2 ∨ e = 3 ∨ e = 4 ∨ e = 5 := by omega
  rcases this with rfl | rfl | rfl | rfl | rfl | rfl
  · exact ⟨0, by decide, rfl⟩
  · exact ⟨0, by decide, rfl⟩
  · exact ⟨1, by decide, rfl⟩
  · exact ⟨2, by decide, rfl⟩
  · exact ⟨3, by decide, rfl⟩
  · exact ⟨5, by decide, rfl⟩
theorem resAt {e : Int} (h0 : 0 ≤ e) (h1 : e < 6) : ∃ r ∈ resN, atI (resN.map fun r => D.tup (r.map .str)) e = some (.tup (r.map .str)) := by
  obtain ⟨x, hx, ex⟩ := at_draw (xs := resN) h0 h1
  exact ⟨x, hx, atI_map h0 ex⟩
theorem WF.keyB {P : Parts} (o : WF P) {s : Str} {b : Str × Str} (h : lk P.bn s = some b) : wordS s = true ∧ wordS b.2 = true ∧ b.1 ∈ keysN P.sc := o.bwd _ (lk_mem h)
theorem mem_putN {α : Type} {t : Tab α} {s : Str} {a : α} {e : Str × α} (h : e ∈ putN t s a) : e ∈ t ∨ e = (s, a) := by
  unfold putN at h
  split at h
  · obtain ⟨x, hx, rfl⟩ := List.mem_map.mp h
    by_cases c : x.1 = s
    · rw [if_pos c, c]; exact .inr rfl
    · rw [if_neg c]; exact .inl hx
  · rcases List.mem_append.mp h with h | h
    · exact .inl h
    · exact .inr (List.mem_singleton.mp h)
theorem key_putN {α : Type} {t : Tab α} {s j : Str} {a : α} (h : j ∈ keysN (putN t s a)) : j ∈ keysN t ∨ j = s := by
  rw [keysN_putN] at h
  split at h
  · exact .inl h
  · rcases List.mem_append.mp h with h | h
    · exact .inl h
    · exact .inr (List.mem_singleton.mp h)
/-! a tree is checked -/
def ordGo : List Str → Sc → Bool
  | _, [] => true
  | ks, (s, some p) :: r => decide (s ∉ ks) && (decide (p ∈ ks) && ordGo (ks ++ [s]) r)
  | _, (_, none) :: _ => false
theorem ordGo_ok : ∀ {r pre : Sc}, OrdSc pre → ordGo (keysN pre) r = true → OrdSc (pre ++ r)
  | [], pre, h, _ => by rw [List.append_nil]; exact h
  | (s, some p) :: r, pre, h, e => by
    unfold ordGo at e
    rw [Bool.and_eq_true, Bool.and_eq_true] at e
    obtain ⟨e1, e2, e3⟩ := e
    have h2 := OrdSc.snoc h (of_decide_eq_true e1) (of_decide_eq_true e2)
    have e4 : ordGo (keysN (pre ++ [(s, some p)])) r = true := by rw [keysN_append]; exact e3
    have := ordGo_ok h2 e4
    rw [List.append_assoc] at this
    exact this
  | (s, none) :: r, pre, h, e => by unfold ordGo at e; cases e
def ordB : Sc → Bool
  | (r, none) :: rest => ordGo [r] rest
  | _ => false
theorem ordB_ok : ∀ {sc : Sc}, ordB sc = true → OrdSc sc
  | (r, none) :: rest, h => ordGo_ok (pre := [(r, none)]) (.root r) h
  | [], h => by cases h
  | (_, some _) :: _, h => by cases h

end DL
namespace DL
open PySem PySem.Spec PyProof.Rows L2
/-! spans in plain Lean -/
def upTo (l : List Str) (t : Str) : List Str := l.takeWhile fun s => decide (s ≠ t)
theorem idx_upTo : ∀ {l : List Str} {t : Str}, t ∈ l → ∃ j, l[j]? = some t ∧ (∀ m s, m < j → l[m]? = some s → s ≠ t) ∧ l.take j = upTo l t
  | a :: r, t, h => by
    by_cases e : a = t
    · subst e
      refine ⟨0, rfl, fun m s hm => absurd hm (Nat.not_lt_zero m), ?_⟩
      unfold upTo
      rw [List.takeWhile_cons_of_neg (by simp)]
      rfl
    · have h' : t ∈ r := (List.mem_cons.mp h).elim (fun z => absurd z.symm e) id
      obtain ⟨j, h1, h2, h3⟩ := idx_upTo h'
      refine ⟨j + 1, h1, fun m s hm hs => ?_, ?_⟩
      · cases m with
        | zero => simp at hs; subst hs; exact e
        | succ m => exact h2 m s (by omega) hs
      · unfold upTo at h3 ⊢
        rw [List.takeWhile_cons_of_pos (by simp [e]), List.take_succ_cons, h3]
theorem upTo_sub {l : List Str} {t s : Str} (h : s ∈ upTo l t) : s ∈ l := (List.takeWhile_sublist _).subset h
/-- t and the scopes on the ways from b's uses to it -/
def reachU (sc : Sc) (us : Tb) (b t : Str) : List Str := t :: (us.filter fun e => decide (e.2.2 = b)).flatMap fun e => upTo (way sc e.2.1) t
theorem reachU_mem {sc : Sc} {us : Tb} {b t s : Str} : s ∈ reachU sc us b t ↔ s = t ∨ ∃ e ∈ us, e.2.2 = b ∧ s ∈ upTo (way sc e.2.1) t := by
  unfold reachU
  rw [List.mem_cons, List.mem_flatMap]
  constructor
  · rintro (h | ⟨e, he, h⟩)
    · exact .inl h
    · obtain ⟨h1, h2⟩ := List.mem_filter.mp he
      exact .inr ⟨e, h1, of_decide_eq_true h2, h⟩
  · rintro (h | ⟨e, he, h1, h2⟩)
    · exact .inl h
    · exact .inr ⟨e, List.mem_filter.mpr ⟨he, decide_eq_true h1⟩, h2⟩
def spanN (P : Parts) (b : Str) : List Str := match lk P.bn b with
  | some p => sortT (nubT (reachU P.sc P.us b p.1))
  | none => []
def spansT (P : Parts) : Tab (List Str) := P.bn.map fun e => (e.1, spanN P e.1)
def fL (xs : List Str) : D := .lst (xs.map .str)
theorem spansT_keys (P : Parts) : keysN (spansT P) = keysN P.bn := by
  unfold keysN spansT
  rw [List.map_map]
  rfl
theorem spanN_at {P : Parts} {b : Str} {p : Str × Str} (h : lk P.bn b = some p) : spanN P b = sortT (nubT (reachU P.sc P.us b p.1)) := by
  unfold spanN
  rw [h]
theorem spanN_mem {P : Parts} {b s : Str} {p : Str × Str} (h : lk P.bn b = some p) : s ∈ spanN P b ↔ s = p.1 ∨ ∃ e ∈ P.us, e.2.2 = b ∧ s ∈ upTo (way P.sc e.2.1) p.1 := by
  rw [spanN_at h, mem_sortT, nubT_mem, reachU_mem]
theorem spansT_lk {P : Parts} (nd : (keysN P.bn).Nodup) {b : Str} (h : b ∈ keysN P.bn) : lk (spansT P) b = some (spanN P b) := by
  obtain ⟨e, he, rfl⟩ := List.mem_map.mp h
  refine lk_of_mem (by rw [spansT_keys]; exact nd) ?_
  exact List.mem_map.mpr ⟨e, he, rfl⟩
theorem spanN_sub {P : Parts} (o : WF P) {b : Str} : ∀ s ∈ spanN P b, s ∈ keysN P.sc := fun s hs => by
  cases h : lk P.bn b with
  | none => unfold spanN at hs; rw [h] at hs; cases hs
  | some p =>
    rcases (spanN_mem h).mp hs with rfl | ⟨e, he, _, h2⟩
    · exact (o.keyB h).2.2
    · exact o.sc.way_keys _ (o.uwd e he).2.1 s (upTo_sub h2)
theorem spanN_nodup (P : Parts) (b : Str) : (spanN P b).Nodup := by
  unfold spanN
  split
  · exact (sortT_perm _).nodup_iff.mpr (nubT_nodup _)
  · simp
theorem spanN_len {P : Parts} (o : WF P) (b : Str) : (spanN P b).length ≤ 1000 := by
  have := len_sub (spanN_nodup P b) (spanN_sub o)
  rw [len_keysN] at this
  have := o.sm.1
  omega
theorem spanN_word {P : Parts} (o : WF P) (b : Str) : ∀ s ∈ spanN P b, wordS s = true := fun s hs => o.sc.wd s (spanN_sub o s hs)
theorem spanN_sort {P : Parts} (o : WF P) (b : Str) : spanN (sortP P) b = spanN P b := by
  have e : lk (sortP P).bn b = lk P.bn b := lk_ascN o.bnd b
  cases h : lk P.bn b with
  | none =>
    have h' := e.trans h
    unfold spanN
    rw [h, h']
  | some p =>
    rw [spanN_at h, spanN_at (e.trans h)]
    refine sort_nub fun s => ?_
    rw [reachU_mem, reachU_mem]
    have w : ∀ x, way (sortP P).sc x = way P.sc x := fun x => way_perm o.sc.nd (ascN_perm P.sc).symm x
    constructor
    · rintro (h1 | ⟨e, he, h1, h2⟩)
      · exact .inl h1
      · rw [w] at h2; exact .inr ⟨e, (ascN_perm _).mem_iff.mp he, h1, h2⟩
    · rintro (h1 | ⟨e, he, h1, h2⟩)
      · exact .inl h1
      · exact .inr ⟨e, (ascN_perm _).mem_iff.mpr he, h1, by rw [w]; exact h2⟩
/-! dicts within a dict that change -/
structure Nest (w : W) (tq : Tab Addr) (f : Str → List Str) (w2 : W) : Prop where
  n : w2.n = w.n
  e : w2.e = w.e
  new : ∀ b q, lk tq b = some q → w.m q = none ∧ w2.m q = some (.dic (stK (f b)))
  inj : ∀ b b' q, lk tq b = some q → lk tq b' = some q → b = b'
  old : ∀ a o, w.m a = some o → w2.m a = some o
theorem Nest.nil {w : W} {f : Str → List Str} : Nest w [] f w := ⟨rfl, rfl, fun b q h => (by cases h), fun b b' q h => (by cases h), fun _ _ h => h⟩
theorem Nest.sub {w : W} {tq : Tab Addr} {f : Str → List Str} {w2 : W} (s : Nest w tq f w2) : W.Sub w w2 := ⟨s.n.symm, s.e.symm, s.old⟩
theorem Nest.add {w : W} {tq : Tab Addr} {f : Str → List Str} {w2 w3 : W} {b : Str} {q : Addr} (s : Nest w tq f w2) (hb : b ∉ keysN tq) (hq : w2.m q = none) (h3 : w3.m = updM w2.m q (.dic (stK (f b)))) (hn : w3.n = w2.n) (he : w3.e = w2.e) : Nest w (tq ++ [(b, q)]) f w3 := by
  have hw : w.m q = none := by
    cases h : w.m q with
    | none => rfl
    | some o => rw [s.old q o h] at hq; cases hq
  have ne : ∀ b' q', lk tq b' = some q' → q' ≠ q := fun b' q' h z => by
    have := (s.new b' q' h).2
    rw [z, hq] at this; cases this
  have key : ∀ b' q', lk (tq ++ [(b, q)]) b' = some q' → (lk tq b' = some q') ∨ (b' = b ∧ q' = q) := fun b' q' h => by
    rw [lk_append] at h
    cases h1 : lk tq b' with
    | some x => rw [h1] at h; exact .inl h
    | none =>
      rw [h1, lk_cons] at h
      by_cases e : b = b'
      · rw [if_pos e] at h; cases h; exact .inr ⟨e.symm, rfl⟩
      · rw [if_neg e] at h; cases h
  refine ⟨hn.trans s.n, he.trans s.e, fun b' q' h => ?_, fun b1 b2 q' h1 h2 => ?_, fun a o h => ?_⟩
  · rcases key b' q' h with h | ⟨rfl, rfl⟩
    · exact ⟨(s.new b' q' h).1, by rw [h3, updM_ne (ne b' q' h)]; exact (s.new b' q' h).2⟩
    · exact ⟨hw, by rw [h3, updM_same]⟩
  · rcases key b1 q' h1 with h1' | ⟨e1, e2⟩
    · rcases key b2 q' h2 with h2' | ⟨e3, e4⟩
      · exact s.inj b1 b2 q' h1' h2'
      · exact absurd e4 (ne b1 q' h1')
    · rcases key b2 q' h2 with h2' | ⟨e3, e4⟩
      · exact absurd e2 (ne b2 q' h2')
      · rw [e1, e3]
  · rw [h3, updM_ne (fun z => by rw [z, hw] at h; cases h)]
    exact s.old a o h
def updF (f : Str → List Str) (b : Str) (xs : List Str) : Str → List Str := fun s => if s = b then xs else f s
theorem Nest.set {w : W} {tq : Tab Addr} {f : Str → List Str} {w2 w3 : W} {b : Str} {q : Addr} {xs : List Str} (s : Nest w tq f w2) (h : lk tq b = some q) (h3 : w3.m = updM w2.m q (.dic (stK xs))) (hn : w3.n = w2.n) (he : w3.e = w2.e) : Nest w tq (updF f b xs) w3 := by
  refine ⟨hn.trans s.n, he.trans s.e, fun b' q' h' => ⟨(s.new b' q' h').1, ?_⟩, s.inj, fun a o ha => ?_⟩
  · rw [h3]
    unfold updF
    by_cases e : b' = b
    · subst e
      rw [h] at h'
      cases h'
      rw [updM_same, if_pos rfl]
    · rw [if_neg e]
      have ne : q' ≠ q := fun z => e (s.inj b' b q (z ▸ h') h)
      rw [updM_ne ne]
      exact (s.new b' q' h').2
  · rw [h3, updM_ne (fun z => by rw [z, (s.new b q h).1] at ha; cases ha)]
    exact s.old a o ha
theorem Nest.same {w : W} {tq : Tab Addr} {f g : Str → List Str} {w2 : W} (s : Nest w tq f w2) (h : ∀ b, f b = g b) : Nest w tq g w2 := by
  have : f = g := funext h
  rw [← this]; exact s
theorem Nest.st {w : W} {tq : Tab Addr} {f : Str → List Str} {w2 w3 : W} (s : Nest w tq f w2) (h3 : w3.m = w2.m) (hn : w3.n = w2.n) (he : w3.e = w2.e) : Nest w tq f w3 :=
  ⟨hn.trans s.n, he.trans s.e, fun b q h => ⟨(s.new b q h).1, by rw [h3]; exact (s.new b q h).2⟩, s.inj, fun a o h => by rw [h3]; exact s.old a o h⟩

end DL
namespace DL
open PySem PySem.Spec PyProof.Rows L2
/-! the words that are taken at a scope -/
def takenN (P : Parts) (s : Str) : List Str := sortT (nubT (P.rs ++ (P.ou.filter fun e => decide (s ∈ way P.sc e.2.1)).map fun e => e.2.2))
theorem takenN_mem {P : Parts} {s t : Str} : t ∈ takenN P s ↔ t ∈ P.rs ∨ ∃ e ∈ P.ou, e.2.2 = t ∧ s ∈ way P.sc e.2.1 := by
  unfold takenN
  rw [mem_sortT, nubT_mem, List.mem_append, List.mem_map]
  constructor
  · rintro (h | ⟨e, he, rfl⟩)
    · exact .inl h
    · obtain ⟨h1, h2⟩ := List.mem_filter.mp he
      exact .inr ⟨e, h1, rfl, of_decide_eq_true h2⟩
  · rintro (h | ⟨e, he, rfl, h⟩)
    · exact .inl h
    · exact .inr ⟨e, List.mem_filter.mpr ⟨he, decide_eq_true h⟩, rfl⟩
theorem takenN_sort {P : Parts} (o : WF P) (s : Str) : takenN (sortP P) s = takenN P s := by
  unfold takenN
  refine sort_nub fun t => ?_
  have h1 := takenN_mem (P := P) (s := s) (t := t)
  have h2 := takenN_mem (P := sortP P) (s := s) (t := t)
  unfold takenN at h1 h2
  rw [mem_sortT, nubT_mem] at h1 h2
  rw [h1, h2]
  have w : ∀ x, way (sortP P).sc x = way P.sc x := fun x => way_perm o.sc.nd (ascN_perm P.sc).symm x
  show (t ∈ sortT (nubT P.rs) ∨ ∃ e ∈ ascN P.ou, e.2.2 = t ∧ s ∈ way (sortP P).sc e.2.1) ↔ _
  rw [mem_sortT, nubT_mem]
  constructor
  · rintro (h | ⟨e, he, h3, h4⟩)
    · exact .inl h
    · rw [w] at h4; exact .inr ⟨e, (ascN_perm _).mem_iff.mp he, h3, h4⟩
  · rintro (h | ⟨e, he, h3, h4⟩)
    · exact .inl h
    · exact .inr ⟨e, (ascN_perm _).mem_iff.mpr he, h3, by rw [w]; exact h4⟩
theorem takenN_word {P : Parts} (o : WF P) (s : Str) : ∀ t ∈ takenN P s, wordS t = true := fun t ht => by
  rcases takenN_mem.mp ht with h | ⟨e, he, rfl, _⟩
  · exact o.rwd t h
  · exact (o.owd e he).2.1
theorem takenN_len {P : Parts} (o : WF P) (s : Str) : (takenN P s).length ≤ 2000 := by
  unfold takenN
  rw [sortT_len]
  refine Nat.le_trans (nubT_len _) ?_
  rw [List.length_append, List.length_map]
  have h1 := List.length_filter_le (fun e => decide (s ∈ way P.sc e.2.1)) P.ou
  obtain ⟨_, _, _, h2, h3⟩ := o.sm
  omega
theorem takenN_nodup (P : Parts) (s : Str) : (takenN P s).Nodup := (sortT_perm _).nodup_iff.mpr (nubT_nodup _)
theorem nodup_addS_len {xs : List Str} {n : Nat} : xs.length ≤ n → xs.length < n + 1 := fun h => by omega

end DL
namespace DL
open PySem PySem.Spec PyProof.Rows L2
/-! choosing among the bindings in order -/
theorem filter_sort {xs : List Str} (p : Str → Bool) : sortT (xs.filter p) = (sortT xs).filter p := by
  have h1 : sortT (xs.filter p) = sortT ((sortT xs).filter p) := sortT_eq ((sortT_perm xs).symm.filter p)
  rw [h1]
  exact sortT_srt (List.Pairwise.filter _ (sortT_ord xs))
theorem sort_sort (xs : List Str) : sortT (sortT xs) = sortT xs := sortT_srt (sortT_ord xs)
theorem sort_keys {P : Parts} : sortT (keysN (sortP P).bn) = sortT (keysN P.bn) := by
  show sortT (keysN (ascN P.bn)) = _
  rw [keysN_ascN, sort_sort]
theorem ltT_not {a b : Str} : strLt a b = !leT b a := by
  unfold strLt leT
  by_cases h : a.cps.toList < b.cps.toList
  · rw [decide_eq_true h, decide_eq_false (fun z => (List.not_le.mpr h) z)]
    rfl
  · rw [decide_eq_false h, decide_eq_true (List.not_lt.mp h)]
    rfl
/-- what follows in an ascending list is what is greater -/
theorem drop_gt : ∀ {l : List Str} {i : Nat} {a : Str}, (l.Pairwise fun a b => leT a b = true) → l.Nodup → l[i]? = some a → l.drop (i + 1) = l.filter fun b => strLt a b
  | x :: r, 0, a, hs, hn, h => by
    simp at h
    subst h
    have hs := List.pairwise_cons.mp hs
    have hn := List.nodup_cons.mp hn
    have e0 : strLt x x = false := by
      rw [ltT_not]
      have := leT_total x x
      simp at this
      rw [this]
      rfl
    rw [List.filter_cons_of_neg (by rw [e0]; decide)]
    show r = _
    refine (List.filter_eq_self.mpr fun b hb => ?_).symm
    rw [ltT_not]
    cases e : leT b x with
    | false => rfl
    | true => exact absurd (leT_anti (hs.1 b hb) e) (fun z => hn.1 (z ▸ hb))
  | x :: r, i + 1, a, hs, hn, h => by
    have h : r[i]? = some a := h
    have hs := List.pairwise_cons.mp hs
    have hn := List.nodup_cons.mp hn
    have ha := List.mem_of_getElem? h
    have e0 : strLt a x = false := by
      rw [ltT_not, hs.1 a ha]
      rfl
    rw [List.filter_cons_of_neg (by rw [e0]; decide)]
    exact drop_gt hs.2 hn.2 h
def reachN (P : Parts) (s : Str) : List Str := (sortT (keysN P.bn)).filter fun b => decide (s ∈ spanN P b)
theorem reachN_sort {P : Parts} (o : WF P) (s : Str) : reachN (sortP P) s = reachN P s := by
  unfold reachN
  rw [sort_keys]
  refine List.filter_congr fun b _ => ?_
  rw [spanN_sort o]
theorem reachN_word {P : Parts} (o : WF P) (s : Str) : ∀ b ∈ reachN P s, wordS b = true := fun b hb => keys_word o (mem_sortT.mp (List.mem_filter.mp hb).1)
theorem reachN_len {P : Parts} (o : WF P) (s : Str) : (reachN P s).length ≤ 1000 := by
  refine Nat.le_trans (List.length_filter_le _ _) ?_
  rw [sortT_len, len_keysN]
  exact o.sm.2.1
def barB (P : Parts) (b : Str) : Bool := match lk P.bn b with
  | some p => decide (p.2 ∈ takenN P p.1)
  | none => false
def barredN (P : Parts) : List Str := (sortT (keysN P.bn)).filter (barB P)
theorem barB_sort {P : Parts} (o : WF P) (b : Str) : barB (sortP P) b = barB P b := by
  unfold barB
  rw [show lk (sortP P).bn b = lk P.bn b from lk_ascN o.bnd b]
  cases lk P.bn b with
  | none => rfl
  | some p => show decide (p.2 ∈ takenN (sortP P) p.1) = _; rw [takenN_sort o]
theorem barredN_sort {P : Parts} (o : WF P) : barredN (sortP P) = barredN P := by
  unfold barredN
  rw [sort_keys]
  exact List.filter_congr fun b _ => barB_sort o b
theorem barredN_word {P : Parts} (o : WF P) : ∀ b ∈ barredN P, wordS b = true := fun b hb => keys_word o (mem_sortT.mp (List.mem_filter.mp hb).1)
theorem barredN_len {P : Parts} (o : WF P) : (barredN P).length ≤ 1000 := by
  refine Nat.le_trans (List.length_filter_le _ _) ?_
  rw [sortT_len, len_keysN]
  exact o.sm.2.1
/-! bindings that conflict -/
def wordAt (P : Parts) (b : Str) : Option Str := (lk P.bn b).map (·.2)
def meetB (P : Parts) (a b : Str) : Bool := (spanN P a).any fun s => decide (s ∈ spanN P b)
def confB (P : Parts) (a b : Str) : Bool := decide (wordAt P a = wordAt P b) && meetB P a b
def rowC (P : Parts) (a : Str) : List (Str × Str) := (((sortT (keysN P.bn)).filter fun b => strLt a b).filter (confB P a)).map fun b => (a, b)
def confN (P : Parts) : List (Str × Str) := (sortT (keysN P.bn)).flatMap (rowC P)
theorem confN_sort {P : Parts} (o : WF P) : confN (sortP P) = confN P := by
  unfold confN rowC
  rw [sort_keys]
  have e : ∀ a b, confB (sortP P) a b = confB P a b := fun a b => by
    unfold confB meetB wordAt
    rw [spanN_sort o, spanN_sort o, show lk (sortP P).bn a = lk P.bn a from lk_ascN o.bnd a, show lk (sortP P).bn b = lk P.bn b from lk_ascN o.bnd b]
  have e2 : ∀ a, confB (sortP P) a = confB P a := fun a => funext (e a)
  congr 1
  funext a
  rw [e2 a]
theorem confN_mem {P : Parts} {q : Str × Str} (h : q ∈ confN P) : q.1 ∈ keysN P.bn ∧ q.2 ∈ keysN P.bn := by
  unfold confN at h
  obtain ⟨a, ha, h⟩ := List.mem_flatMap.mp h
  unfold rowC at h
  obtain ⟨b, hb, rfl⟩ := List.mem_map.mp h
  exact ⟨mem_sortT.mp ha, mem_sortT.mp (List.mem_filter.mp (List.mem_filter.mp hb).1).1⟩
theorem flat_len {α β : Type} {f : α → List β} {n : Nat} : ∀ {l : List α}, (∀ a ∈ l, (f a).length ≤ n) → (l.flatMap f).length ≤ l.length * n
  | [], _ => by simp
  | a :: r, h => by
    rw [List.flatMap_cons, List.length_append, show (a :: r).length = r.length + 1 from rfl, Nat.succ_mul]
    have := flat_len (f := f) (n := n) (l := r) fun x hx => h x (List.mem_cons_of_mem _ hx)
    have := h a (List.mem_cons_self ..)
    omega
theorem rowC_len (P : Parts) (a : Str) : (rowC P a).length ≤ P.bn.length := by
  unfold rowC
  rw [List.length_map]
  refine Nat.le_trans (List.length_filter_le _ _) (Nat.le_trans (List.length_filter_le _ _) ?_)
  rw [sortT_len, len_keysN]
  exact Nat.le_refl _
theorem confN_len (P : Parts) : (confN P).length ≤ P.bn.length * P.bn.length := by
  have := flat_len (f := rowC P) (n := P.bn.length) (l := sortT (keysN P.bn)) fun a _ => rowC_len P a
  rw [sortT_len, len_keysN] at this
  exact this
theorem toPyL_map {α : Type} (f : α → D) (g : α → PyData) (h : ∀ a, toPy (f a) = some (g a)) : ∀ xs : List α, toPyL (xs.map f) = some (xs.map g)
  | [] => rfl
  | x :: r => by
    rw [List.map_cons, List.map_cons]
    simp [toPyL, h x, toPyL_map f g h r]
def pP (p : Str × Str) : PyData := .tuple [.str p.1, .str p.2]
theorem toPy_pairs (xs : List (Str × Str)) : toPy (.tup (xs.map pD)) = some (.tuple (xs.map pP)) := by
  simp [toPy, toPyL_map pD pP (fun a => rfl) xs]
theorem lay_pairs {xs : List (Str × Str)} (h : ∀ q ∈ xs, wordS q.1 = true ∧ wordS q.2 = true) : Lay 2 (xs.length * 19) (.tuple (xs.map pP)) := by
  have := Lay.tup (k := 1) (n := 18) (ps := xs.map pP) fun p hp => by
    obtain ⟨q, hq, rfl⟩ := List.mem_map.mp hp
    have hw := h q hq
    exact lay_words (xs := [q.1, q.2]) fun s hs => by
      simp only [List.mem_cons, List.not_mem_nil, or_false] at hs
      rcases hs with rfl | rfl
      · exact hw.1
      · exact hw.2
  rw [List.length_map] at this
  exact this
theorem eqv_pP (a b : Str × Str) : PyData.eqv (pP a) (pP b) = decide (a = b) := by
  have e := eqv_tup [a.1, a.2] [b.1, b.2]
  have e2 : decide ([a.1, a.2] = [b.1, b.2]) = decide (a = b) := by
    obtain ⟨a1, a2⟩ := a
    obtain ⟨b1, b2⟩ := b
    simp
  rw [← e2, ← e]
  rfl
theorem eqv_pairs : ∀ xs ys : List (Str × Str), PyData.eqvAll (xs.map pP) (ys.map pP) = decide (xs = ys)
  | [], [] => rfl
  | [], _ :: _ => rfl
  | _ :: _, [] => rfl
  | x :: r, y :: t => by
    rw [List.map_cons, List.map_cons]
    simp only [PyData.eqvAll, eqv_pP, eqv_pairs r t]
    by_cases h : x = y
    · subst h
      simp
    · simp [h]
theorem eq_pairsT {neg : Bool} {xs ys : List (Str × Str)} {w : W} {Q : DK} (h1 : ∀ q ∈ xs, wordS q.1 = true ∧ wordS q.2 = true) (h2 : ∀ q ∈ ys, wordS q.1 = true ∧ wordS q.2 = true) (q : Q (.bl (neg ^^ decide (xs = ys))) w) : eqR neg (.tup (xs.map pD)) (.tup (ys.map pD)) w Q := by
  have e : PyData.eqv (.tuple (xs.map pP)) (.tuple (ys.map pP)) = decide (xs = ys) := by simp only [PyData.eqv, eqv_pairs]
  rw [← e] at q
  exact ⟨_, _, toPy_pairs xs, toPy_pairs ys, (lay_pairs h1).shaped (by decide), (lay_pairs h2).shaped (by decide), q⟩
theorem confN_word {P : Parts} (o : WF P) : ∀ q ∈ confN P, wordS q.1 = true ∧ wordS q.2 = true := fun q hq => ⟨keys_word o (confN_mem hq).1, keys_word o (confN_mem hq).2⟩
theorem Drawn.small {P : Parts} (d : Drawn P) : P.us.length * P.sc.length ≤ 4000 ∧ P.bn.length ≤ 60 := by
  obtain ⟨z1, z2, z3, _, _⟩ := d.sizes
  exact ⟨Nat.le_trans (Nat.mul_le_mul z3 z1) (by decide), by omega⟩
theorem show_conf {P : Parts} (o : WF P) (h : P.bn.length ≤ 200) : ShowOk (.tuple ((confN P).map pP)) := (lay_pairs (confN_word o)).show (by decide) (by
  have h1 := confN_len P
  have h2 : P.bn.length * P.bn.length ≤ 200 * 200 := Nat.mul_le_mul h h
  omega)
/-- a program of one scope -/
def oneP : Parts := ⟨[("a", none)], [], [], [], []⟩
theorem oneP_wf : WF oneP := by
  have o : OrdSc oneP.sc := ordB_ok (by decide +kernel)
  refine ⟨o.ok (by decide +kernel), by decide +kernel, fun e he => (nomatch he), by decide +kernel, fun e he => (nomatch he), by decide +kernel, fun e he => (nomatch he), fun s hs => (nomatch hs), by decide +kernel, by decide⟩

end DL
namespace DL
open PySem PySem.Spec PyProof.Rows L2
/-! scopes that two bindings both reach -/
def commonN (P : Parts) (a b : Str) : List Str := (spanN P a).filter fun s => decide (s ∈ spanN P b)
def headOf : List Str → D
  | [] => .non
  | x :: _ => .str x
def meetN (P : Parts) (a b : Str) : D := headOf (commonN P a b)
theorem commonN_sort {P : Parts} (o : WF P) (a b : Str) : commonN (sortP P) a b = commonN P a b := by
  unfold commonN
  rw [spanN_sort o, spanN_sort o]
theorem meetN_sort {P : Parts} (o : WF P) (a b : Str) : meetN (sortP P) a b = meetN P a b := by
  unfold meetN
  rw [commonN_sort o]
theorem spanN_ord (P : Parts) (b : Str) : (spanN P b).Pairwise fun a b => leT a b = true := by
  unfold spanN
  split
  · exact sortT_ord _
  · exact List.Pairwise.nil
theorem commonN_ord (P : Parts) (a b : Str) : (commonN P a b).Pairwise fun a b => leT a b = true := (spanN_ord P a).filter _
theorem commonN_word {P : Parts} (o : WF P) (a b : Str) : ∀ s ∈ commonN P a b, wordS s = true := fun s hs => spanN_word o a s (List.mem_filter.mp hs).1
theorem commonN_len {P : Parts} (o : WF P) (a b : Str) : (commonN P a b).length ≤ 1000 := Nat.le_trans (List.length_filter_le _ _) (spanN_len o a)
theorem commonN_sOk {P : Parts} (o : WF P) (a b : Str) : (SeqAt.shaped (.list ((commonN P a b).map PyData.str))) = true := (sh_strs (words_sOk (commonN_word o a b))).2
/-- x != [] -/
theorem ne_nilL {l : List Str} {w : W} {Q : DK} (hs : ∀ s ∈ l, wordS s = true) (q : Q (.bl !decide (l = [])) w) : eqR true (.lst (l.map .str)) (.lst []) w Q := by
  refine ⟨_, _, toPy_lst _, toPy_lst [], (sh_strs (words_sOk hs)).2, rfl, ?_⟩
  rw [eqv_lst]
  rw [Bool.true_xor]
  exact q
theorem min_head {l : List Str} {w : W} {Q : DK} (hne : l ≠ []) (ho : l.Pairwise fun a b => leT a b = true) (q : Q (headOf l) w) : minR [.lst (l.map .str)] w Q := by
  cases l with
  | nil => exact absurd rfl hne
  | cons x r =>
    refine ⟨x, r, strsOf_map (x :: r), ?_⟩
    rw [minT_head ho]
    exact q
def hP : List Str → PyData
  | [] => .none
  | x :: _ => .str x
theorem toPy_head : ∀ l, toPy (headOf l) = some (hP l)
  | [] => rfl
  | _ :: _ => rfl
theorem lay_head {l : List Str} (h : ∀ s ∈ l, wordS s = true) : Lay 0 8 (hP l) := by
  cases l with
  | nil => exact Lay.non.mono (Nat.le_refl _) (by decide)
  | cons x r => exact Lay.word (h x (List.mem_cons_self ..))
theorem eqv_head : ∀ l : List Str, PyData.eqv (hP l) (hP l) = true
  | [] => by simp [hP, PyData.eqv]
  | x :: _ => by simp [hP, PyData.eqv]
theorem eq_headS {l : List Str} {w : W} {Q : DK} (h : ∀ s ∈ l, wordS s = true) (q : Q (.bl false) w) : eqR true (headOf l) (headOf l) w Q := by
  cases l with
  | nil => exact ⟨_, _, rfl, rfl, rfl, rfl, by simpa [PyData.eqv] using q⟩
  | cons x r =>
    show Q (.bl (true ^^ decide (x = x))) w
    simpa using q
theorem toPy_pair (l : List Str) : toPy (.lst [headOf l, headOf l]) = some (.list [hP l, hP l]) := by
  simp [toPy, toPyL, toPy_head]
theorem show_pair {l : List Str} (h : ∀ s ∈ l, wordS s = true) : ShowOk (.list [hP l, hP l]) := (Lay.lst (k := 0) (n := 8) (ps := [hP l, hP l]) fun p hp => by
  simp only [List.mem_cons, List.not_mem_nil, or_false] at hp
  rcases hp with rfl | rfl <;> exact lay_head h).show (by decide) (by simp)

end DL
namespace DL
open PySem PySem.Spec PyProof.Rows L2
/-! words that a binding can have -/
theorem filt_any {xs : List Str} {p : Str → Bool} : (!decide (xs.filter p = [])) = xs.any p := by
  rw [Bool.eq_iff_iff, List.any_eq_true]
  constructor
  · intro h
    have h : ¬ xs.filter p = [] := by simpa using h
    obtain ⟨x, hx⟩ := List.exists_mem_of_ne_nil _ h
    obtain ⟨h1, h2⟩ := List.mem_filter.mp hx
    exact ⟨x, h1, h2⟩
  · rintro ⟨x, h1, h2⟩
    have : x ∈ xs.filter p := List.mem_filter.mpr ⟨h1, h2⟩
    have ne : xs.filter p ≠ [] := fun z => by rw [z] at this; cases this
    simpa using ne
theorem common_any (P : Parts) (a b : Str) : (!decide (commonN P a b = [])) = meetB P a b := filt_any
def otherN (P : Parts) (b x : Str) : List Str := (sortT (keysN P.bn)).filter fun c => !decide (c = b) && decide (wordAt P c = some x)
def rivalN (P : Parts) (b x : Str) : List Str := (otherN P b x).filter fun c => meetB P c b
theorem meetB_sort {P : Parts} (o : WF P) (a b : Str) : meetB (sortP P) a b = meetB P a b := by
  unfold meetB
  rw [spanN_sort o, spanN_sort o]
theorem wordAt_sort {P : Parts} (o : WF P) (a : Str) : wordAt (sortP P) a = wordAt P a := by
  unfold wordAt
  rw [show lk (sortP P).bn a = lk P.bn a from lk_ascN o.bnd a]
theorem rivalN_sort {P : Parts} (o : WF P) (b x : Str) : rivalN (sortP P) b x = rivalN P b x := by
  unfold rivalN otherN
  rw [sort_keys]
  have e1 : (fun c => meetB (sortP P) c b) = fun c => meetB P c b := funext fun c => meetB_sort o c b
  have e2 : (fun c => !decide (c = b) && decide (wordAt (sortP P) c = some x)) = fun c => !decide (c = b) && decide (wordAt P c = some x) := funext fun c => by rw [wordAt_sort o]
  rw [e1, e2]
theorem rivalN_key {P : Parts} {b x c : Str} (h : c ∈ rivalN P b x) : c ∈ keysN P.bn := mem_sortT.mp (List.mem_filter.mp (List.mem_filter.mp h).1).1
theorem rivalN_word {P : Parts} (o : WF P) (b x : Str) : ∀ c ∈ rivalN P b x, wordS c = true := fun c hc => keys_word o (rivalN_key hc)
theorem otherN_len (P : Parts) (b x : Str) : (otherN P b x).length ≤ P.bn.length := by
  refine Nat.le_trans (List.length_filter_le _ _) ?_
  rw [sortT_len, len_keysN]
  exact Nat.le_refl _
theorem rivalN_len (P : Parts) (b x : Str) : (rivalN P b x).length ≤ P.bn.length := Nat.le_trans (List.length_filter_le _ _) (otherN_len P b x)
def canB (P : Parts) (b x : Str) : Bool := match lk P.bn b with
  | some p => !decide (x ∈ takenN P p.1) && decide (rivalN P b x = [])
  | none => false
theorem canB_sort {P : Parts} (o : WF P) (b x : Str) : canB (sortP P) b x = canB P b x := by
  unfold canB
  rw [show lk (sortP P).bn b = lk P.bn b from lk_ascN o.bnd b]
  cases lk P.bn b with
  | none => rfl
  | some p => show (!decide (x ∈ takenN (sortP P) p.1) && decide (rivalN (sortP P) b x = [])) = _; rw [takenN_sort o, rivalN_sort o]

end DL
namespace DL
open PySem PySem.Spec PyProof.Rows L2
/-! sets of bindings, obstacles -/
section
variable {α : Type} {gd : DTG} {tt : DTT} {te : DTE} {vs : List Nat} {env : En} {w : W} {Q : DK} {fin : List D → W → DK → Prop}
/-- [f a for a in xs if p a] -/
theorem lc_filtM (xs : List α) (g : α → D) (p : α → Bool) (f : α → D) (hz : xs.length ≤ 1000000)
    (h : ∀ a, a ∈ xs → ∀ (R : DK) (S : W → Prop), (p a = true → R (f a) w.mute) → (p a = false → S w.mute) → gd (g a) (wipeD env vs) w.mute fun env2 w3 => tt env2 w3 fun b w4 => if b = true then te env2 w4 R else S w4) (hf : fin ((xs.filter p).map f) w Q) :
    (xs.map g).length ≤ sizeLine ∧ ∃ Pv : Nat → List D → W → Prop, Pv 0 [] w ∧
      (∀ i x acc w2, (xs.map g)[i]? = some x → acc.length ≤ i → Pv i acc w2 → gd x (wipeD env vs) w2.mute fun env2 w3 => tt env2 w3 fun b w4 => if b = true then te env2 w4 fun y w5 => Pv (i + 1) (acc ++ [y]) (w5.as w) else Pv (i + 1) acc (w4.as w)) ∧
      ∀ acc w2, Pv (xs.map g).length acc w2 → fin acc w2 Q := by
  refine ⟨by rw [List.length_map]; exact le_sz hz, fun i acc w2 => w2 = w ∧ acc = ((xs.take i).filter p).map f, ⟨rfl, rfl⟩, ?_, ?_⟩
  · rintro i x acc w2 hx _ ⟨rfl, rfl⟩
    rw [List.getElem?_map] at hx
    obtain ⟨a, ha, rfl⟩ := Option.map_eq_some_iff.mp hx
    refine h a (List.mem_of_getElem? ha) (fun y w5 => w5.as w2 = w2 ∧ ((xs.take i).filter p).map f ++ [y] = ((xs.take (i + 1)).filter p).map f) (fun w4 => w4.as w2 = w2 ∧ ((xs.take i).filter p).map f = ((xs.take (i + 1)).filter p).map f) (fun e => ⟨rfl, ?_⟩) fun e => ⟨rfl, ?_⟩
    · rw [List.take_succ, ha]
      simp [e]
    · rw [List.take_succ, ha]
      simp [e]
  · rintro acc w2 ⟨rfl, rfl⟩
    rw [List.length_map, List.take_length]
    exact hf
/-- [f a for a in xs] -/
theorem lc_mapM (xs : List α) (g : α → D) (f : α → D) (hz : xs.length ≤ 1000000) (h : ∀ a, a ∈ xs → ∀ R : DK, R (f a) w.mute → gd (g a) (wipeD env vs) w.mute fun env2 w3 => te env2 w3 R) (hf : fin (xs.map f) w Q) :
    (xs.map g).length ≤ sizeLine ∧ ∃ Pv : Nat → List D → W → Prop, Pv 0 [] w ∧
      (∀ i x acc w2, (xs.map g)[i]? = some x → acc.length ≤ i → Pv i acc w2 → gd x (wipeD env vs) w2.mute fun env2 w3 => dYes env2 w3 fun b w4 => if b = true then te env2 w4 fun y w5 => Pv (i + 1) (acc ++ [y]) (w5.as w) else Pv (i + 1) acc (w4.as w)) ∧
      ∀ acc w2, Pv (xs.map g).length acc w2 → fin acc w2 Q := by
  have e : xs.map f = (xs.filter fun _ => true).map f := by rw [List.filter_eq_self.mpr fun _ _ => rfl]
  rw [e] at hf
  exact lc_filtM xs g (fun _ => true) f hz (fun a ha R S hR _ => h a ha R (hR rfl)) hf
end
/-- {f a for a in xs} -/
theorem sc_mapM {α : Type} {gd : DTG} {te : DTE} {vs : List Nat} {env : En} {w : W} {done : List Str → W → Prop} (xs : List α) (g : α → D) (f : α → Str) (hz : xs.length ≤ 4000)
    (h : ∀ a, a ∈ xs → ∀ R : DK, R (.str (f a)) w.mute → gd (g a) (wipeD env vs) w.mute fun env2 w3 => te env2 w3 R) (hf : done (xs.map f) w) :
    (xs.map g).length + 1 < scanBound ∧ ∃ Pv : Nat → List Str → W → Prop, Pv 0 [] w ∧
      (∀ i x acc w2, (xs.map g)[i]? = some x → acc.length ≤ i → Pv i acc w2 → gd x (wipeD env vs) w2.mute fun env2 w3 => dYes env2 w3 fun b w4 => if b = true then te env2 w4 fun y w5 => ∃ b, putS y w5 b ∧ Pv (i + 1) (acc ++ [b]) (w5.as w) else Pv (i + 1) acc (w4.as w)) ∧
      ∀ acc w2, Pv (xs.map g).length acc w2 → acc.length ≤ (xs.map g).length → done acc w2 := by
  refine ⟨by rw [List.length_map]; unfold scanBound; omega, fun i acc w2 => w2 = w ∧ acc = (xs.take i).map f, ⟨rfl, rfl⟩, ?_, ?_⟩
  · rintro i x acc w2 hx _ ⟨rfl, rfl⟩
    rw [List.getElem?_map] at hx
    obtain ⟨a, ha, rfl⟩ := Option.map_eq_some_iff.mp hx
    refine h a (List.mem_of_getElem? ha) (fun y w5 => ∃ b, putS y w5 b ∧ w5.as w2 = w2 ∧ (xs.take i).map f ++ [b] = (xs.take (i + 1)).map f) ⟨f a, rfl, rfl, ?_⟩
    rw [List.take_succ, ha]
    simp
  · rintro acc w2 ⟨rfl, rfl⟩ _
    rw [List.length_map, List.take_length]
    exact hf
theorem in_words {neg : Bool} {b : Str} {r : D} {ss : List Str} {w : W} {Q : DK} (h : wordsOf r ss) (q : Q (.bl (neg ^^ decide (b ∈ ss))) w) : DL.inR neg (.str b) r w Q := by
  rcases h with rfl | rfl
  · refine ⟨by rw [scal_strs]; rfl, ?_⟩
    rw [memS_str]; exact q
  · refine ⟨by rw [scal_strs]; rfl, ?_⟩
    rw [memS_str]; exact q
def obD (o : List Str) : D := .tup (o.map .str)
def obP (o : List Str) : PyData := .tuple (o.map .str)
noncomputable def leO (a b : List Str) : Bool := PySem.W.dataLe false obP a b
def obsAll (P : Parts) (kept : List Str) : List (List Str) :=
  ((barredN P).filter fun b => decide (b ∈ kept)).map (fun b => [b]) ++ ((confN P).filter fun q => decide (q.1 ∈ kept) && decide (q.2 ∈ kept)).map fun q => [q.1, q.2]
noncomputable def obsN (P : Parts) (kept : List Str) : List (List Str) := (obsAll P kept).mergeSort leO
theorem dRows_map {α : Type} (f : α → D) (g : α → PyData) (h : ∀ a, toPy (f a) = some (g a)) : ∀ xs : List α, dRows (xs.map f) = some (xs.map fun a => (f a, g a))
  | [] => rfl
  | x :: r => by
    rw [List.map_cons, List.map_cons]
    simp [dRows, h x, dRows_map f g h r]
theorem sort_rows {α : Type} (f : α → D) (g : α → PyData) (xs : List α) : ((xs.map fun a => (f a, g a)).mergeSort leD2).map (·.1) = (xs.mergeSort fun a b => PySem.W.dataLe false g a b).map f := by
  have e : (xs.mergeSort fun a b => PySem.W.dataLe false g a b).map (fun a => (f a, g a)) = (xs.map fun a => (f a, g a)).mergeSort leD2 := List.map_mergeSort (l := xs) (f := fun a => (f a, g a)) (r := fun a b => PySem.W.dataLe false g a b) (s := leD2) fun a _ b _ => rfl
  rw [← e, List.map_map]
  rfl
theorem sort_obs (xs : List (List Str)) : ((xs.map fun a => (obD a, obP a)).mergeSort leD2).map (·.1) = (xs.mergeSort leO).map obD := sort_rows obD obP xs
theorem alike_strs : ∀ xs ys : List Str, PySem.W.alikeAll (xs.map .str) (ys.map .str) = true
  | [], _ => by simp [PySem.W.alikeAll]
  | _ :: _, [] => by simp [PySem.W.alikeAll]
  | x :: xs, y :: ys => by
    show PySem.W.alikeAll (.str x :: xs.map .str) (.str y :: ys.map .str) = true
    rw [PySem.W.alikeAll, alike_strs xs ys]
    simp [PySem.W.alike]
theorem depth_strs : ∀ xs : List Str, PyData.depthAll (xs.map .str) = 0
  | [] => by simp [PyData.depthAll]
  | x :: r => by
    rw [List.map_cons]
    simp [PyData.depthAll, depth_strs r, PyData.depth]
theorem noDict_strs : ∀ xs : List Str, PyData.hasDictAll (xs.map .str) = false
  | [] => by simp [PyData.hasDictAll]
  | x :: r => by
    rw [List.map_cons]
    simp [PyData.hasDictAll, noDict_strs r, PyData.hasDict]
theorem srt_obs {xs : List (List Str)} (h : ∀ o ∈ xs, o ≠ []) : SrtOk (xs.map obP) := by
  refine ⟨fun a ha b hb => ?_, .inl fun d hd => ?_, fun p hp => ?_, fun p hp => ?_⟩
  · obtain ⟨x, _, rfl⟩ := List.mem_map.mp ha
    obtain ⟨y, _, rfl⟩ := List.mem_map.mp hb
    show PySem.W.alike (.tuple (x.map .str)) (.tuple (y.map .str)) = true
    simp only [PySem.W.alike]
    exact alike_strs _ _
  · obtain ⟨x, hx, rfl⟩ := List.mem_map.mp hd
    cases e : x with
    | nil => exact absurd e (h x hx)
    | cons y r => exact ⟨.str y, r.map .str, rfl⟩
  · obtain ⟨a, _, rfl⟩ := List.mem_map.mp hp
    show PyData.depth (.tuple (a.map .str)) ≤ 20
    simp only [PyData.depth, depth_strs]
    decide
  · obtain ⟨a, _, rfl⟩ := List.mem_map.mp hp
    show PyData.hasDict (.tuple (a.map .str)) = false
    simp only [PyData.hasDict, noDict_strs]
theorem obsAll_ne {P : Parts} {kept : List Str} : ∀ o ∈ obsAll P kept, o ≠ [] := fun o ho => by
  rcases List.mem_append.mp ho with h | h
  · obtain ⟨b, _, rfl⟩ := List.mem_map.mp h; simp
  · obtain ⟨b, _, rfl⟩ := List.mem_map.mp h; simp
theorem obsAll_word {P : Parts} (o : WF P) {kept : List Str} : ∀ q ∈ obsAll P kept, ∀ s ∈ q, wordS s = true := fun q hq s hs => by
  rcases List.mem_append.mp hq with h | h
  · obtain ⟨b, hb, rfl⟩ := List.mem_map.mp h
    simp at hs
    subst hs
    exact barredN_word o s (List.mem_filter.mp hb).1
  · obtain ⟨b, hb, rfl⟩ := List.mem_map.mp h
    have := confN_word o b (List.mem_filter.mp hb).1
    simp at hs
    rcases hs with rfl | rfl
    · exact this.1
    · exact this.2
theorem obsAll_sort {P : Parts} (o : WF P) (kept : List Str) : obsAll (sortP P) kept = obsAll P kept := by
  unfold obsAll
  rw [barredN_sort o, confN_sort o]
theorem obsN_sort {P : Parts} (o : WF P) (kept : List Str) : obsN (sortP P) kept = obsN P kept := by
  unfold obsN
  rw [obsAll_sort o]
theorem obsAll_congr {P : Parts} {k k' : List Str} (h : ∀ s, s ∈ k ↔ s ∈ k') : obsAll P k = obsAll P k' := by
  have e : ∀ s, decide (s ∈ k) = decide (s ∈ k') := fun s => decide_eq_decide.mpr (h s)
  unfold obsAll
  simp only [e]
theorem obsN_congr {P : Parts} {k k' : List Str} (h : ∀ s, s ∈ k ↔ s ∈ k') : obsN P k = obsN P k' := by
  unfold obsN
  rw [obsAll_congr h]
theorem obsAll_len {P : Parts} {kept : List Str} (h : P.bn.length ≤ 200) : (obsAll P kept).length ≤ 40200 := by
  unfold obsAll
  rw [List.length_append, List.length_map, List.length_map]
  have h1 := List.length_filter_le (fun b => decide (b ∈ kept)) (barredN P)
  have h2 := List.length_filter_le (fun q => decide (q.1 ∈ kept) && decide (q.2 ∈ kept)) (confN P)
  have h3 := confN_len P
  have h4 : P.bn.length * P.bn.length ≤ 200 * 200 := Nat.mul_le_mul h h
  have h5 : (barredN P).length ≤ P.bn.length := by
    refine Nat.le_trans (List.length_filter_le _ _) ?_
    rw [sortT_len, len_keysN]
    exact Nat.le_refl _
  omega
theorem obsN_mem {P : Parts} {kept q : List Str} : q ∈ obsN P kept ↔ q ∈ obsAll P kept := (List.mergeSort_perm _ _).mem_iff
theorem obsN_word {P : Parts} (o : WF P) {kept : List Str} : ∀ q ∈ obsN P kept, ∀ s ∈ q, wordS s = true := fun q hq => obsAll_word o q (obsN_mem.mp hq)
theorem obsN_len (P : Parts) (kept : List Str) : (obsN P kept).length = (obsAll P kept).length := List.length_mergeSort _
theorem obsN_nil {P : Parts} {kept : List Str} : obsN P kept = [] ↔ obsAll P kept = [] := by
  rw [← List.length_eq_zero_iff, ← List.length_eq_zero_iff, obsN_len]
theorem toPy_obs (xs : List (List Str)) : toPyL (xs.map obD) = some (xs.map obP) := toPyL_map obD obP (fun a => toPy_tup a) xs
theorem lay_ob {q : List Str} (h : ∀ s ∈ q, wordS s = true) (hl : q.length ≤ 2) : Lay 1 18 (obP q) := (lay_words h).mono (Nat.le_refl _) (by omega)
theorem obsAll_two {P : Parts} {kept : List Str} : ∀ q ∈ obsAll P kept, q.length ≤ 2 := fun q hq => by
  rcases List.mem_append.mp hq with h | h
  · obtain ⟨b, _, rfl⟩ := List.mem_map.mp h; simp
  · obtain ⟨b, _, rfl⟩ := List.mem_map.mp h; simp
theorem lay_obs {P : Parts} (o : WF P) {kept : List Str} : ∀ p ∈ (obsN P kept).map obP, Lay 1 18 p := fun p hp => by
  obtain ⟨q, hq, rfl⟩ := List.mem_map.mp hp
  exact lay_ob (obsN_word o q hq) (obsAll_two q (obsN_mem.mp hq))
theorem show_obs {P : Parts} (o : WF P) {kept : List Str} (h : P.bn.length ≤ 200) : ShowOk (.list ((obsN P kept).map obP)) := (Lay.lst (lay_obs o)).show (by decide) (by
  rw [List.length_map, obsN_len]
  have := obsAll_len (P := P) (kept := kept) h
  omega)
theorem eqv_ob (a b : List Str) : PyData.eqv (obP a) (obP b) = decide (a = b) := eqv_tup a b
theorem eqv_obs : ∀ xs ys : List (List Str), PyData.eqvAll (xs.map obP) (ys.map obP) = decide (xs = ys)
  | [], [] => rfl
  | [], _ :: _ => rfl
  | _ :: _, [] => rfl
  | x :: r, y :: t => by
    rw [List.map_cons, List.map_cons]
    simp only [PyData.eqvAll, eqv_ob, eqv_obs r t]
    by_cases h : x = y
    · subst h; simp
    · simp [h]
/-! all sets of names; shuffled ones -/
def setsN (names : List Str) : List (List Str) := names.foldl (fun acc x => acc ++ acc.map (· ++ [x])) [[]]
theorem setsN_snoc (names : List Str) (x : Str) : setsN (names ++ [x]) = setsN names ++ (setsN names).map (· ++ [x]) := by unfold setsN; rw [List.foldl_append]; rfl
theorem setsN_sub {s : List Str} : ∀ {names : List Str}, s ∈ setsN names → s.Sublist names := by
  have key : ∀ n : Nat, ∀ names : List Str, names.length = n → ∀ s ∈ setsN names, s.Sublist names := by
    intro n
    induction n with
    | zero =>
      intro names h s hs
      rw [List.length_eq_zero_iff.mp h] at hs ⊢
      have : s = [] := by simpa [setsN] using hs
      rw [this]
      exact List.Sublist.slnil
    | succ n ih =>
      intro names h s hs
      obtain ⟨r, x, e⟩ : ∃ r x, names = r ++ [x] := ⟨names.dropLast, names.getLast (by intro z; rw [z] at h; cases h), (List.dropLast_concat_getLast _).symm⟩
      subst e
      rw [setsN_snoc] at hs
      have hr : r.length = n := by simpa using h
      rcases List.mem_append.mp hs with hs | hs
      · exact (ih r hr s hs).trans (List.sublist_append_left _ _)
      · obtain ⟨t, ht, rfl⟩ := List.mem_map.mp hs
        exact (ih r hr t ht).append (List.Sublist.refl _)
  exact fun {names} h => key _ names rfl s h
theorem setsN_len : ∀ names : List Str, (setsN names).length = 2 ^ names.length := by
  have key : ∀ n : Nat, ∀ names : List Str, names.length = n → (setsN names).length = 2 ^ n := by
    intro n
    induction n with
    | zero => intro names h; rw [List.length_eq_zero_iff.mp h]; rfl
    | succ n ih =>
      intro names h
      obtain ⟨r, x, e⟩ : ∃ r x, names = r ++ [x] := ⟨names.dropLast, names.getLast (by intro z; rw [z] at h; cases h), (List.dropLast_concat_getLast _).symm⟩
      subst e
      rw [setsN_snoc, List.length_append, List.length_map, ih r (by simpa using h), Nat.pow_succ]
      omega
  exact fun names => key _ names rfl
/-- what is_kept answers -/
def elemsOf : D → Option (List D)
  | .lst xs => some xs
  | .tup xs => some xs
  | _ => none
def keptB (P : Parts) (d : D) : Bool := match elemsOf d with
  | some xs => (match strsOf xs with | some ss => ss.all (fun s => decide (s ∈ keysN P.bn)) && decide ((nubT ss).length = ss.length) | none => false)
  | none => false
theorem nub_len {ss : List Str} : (nubT ss).length = ss.length ↔ ss.Nodup := by
  induction ss with
  | nil => simp [nubT]
  | cons x r ih =>
    unfold nubT
    by_cases h : x ∈ r
    · rw [if_pos h]
      have := nubT_len r
      constructor
      · intro e
        rw [List.length_cons] at e
        omega
      · intro e
        exact absurd h (List.nodup_cons.mp e).1
    · rw [if_neg h, List.length_cons, List.length_cons, List.nodup_cons]
      constructor
      · intro e
        exact ⟨h, ih.mp (by omega)⟩
      · intro e
        rw [ih.mpr e.2]
theorem keptB_ok {P : Parts} {r : D} {ss : List Str} (h : wordsOf r ss) (hk : ∀ s ∈ ss, s ∈ keysN P.bn) (nd : ss.Nodup) : keptB P r = true := by
  have e : elemsOf r = some (ss.map .str) := by rcases h with rfl | rfl <;> rfl
  unfold keptB
  rw [e]
  show (match strsOf (ss.map D.str) with | some ss => ss.all (fun s => decide (s ∈ keysN P.bn)) && decide ((nubT ss).length = ss.length) | none => false) = true
  rw [strsOf_map]
  show (ss.all (fun s => decide (s ∈ keysN P.bn)) && decide ((nubT ss).length = ss.length)) = true
  rw [Bool.and_eq_true]
  exact ⟨List.all_eq_true.mpr fun s hs => decide_eq_true (hk s hs), decide_eq_true (nub_len.mpr nd)⟩
def isStr : D → Bool
  | .str _ => true
  | _ => false
theorem isi_str {x : D} {w : W} {Q : DK} (hx : pl x = true) (q : Q (.bl (isStr x)) w) : isiR [x, .ty "str"] w Q := by
  cases x with
  | str s => exact ⟨_, true, rfl, by decide +kernel, q⟩
  | non => exact ⟨_, false, rfl, by decide +kernel, q⟩
  | bl b => exact ⟨_, false, rfl, by decide +kernel, q⟩
  | int i => exact ⟨_, false, rfl, by decide +kernel, q⟩
  | lst xs => exact ⟨_, false, rfl, by decide +kernel, q⟩
  | tup xs => exact ⟨_, false, rfl, by decide +kernel, q⟩
  | dic xs => exact ⟨_, false, rfl, by decide +kernel, q⟩
  | _ => cases hx
theorem strs_all : ∀ {xs : List D}, (xs.map isStr).all id = true → ∃ ss : List Str, xs = ss.map .str
  | [], _ => ⟨[], rfl⟩
  | y :: r, h => by
    rw [List.map_cons, List.all_cons, Bool.and_eq_true] at h
    obtain ⟨ss, e⟩ := strs_all h.2
    cases y with
    | str s => exact ⟨s :: ss, by rw [e]; rfl⟩
    | _ => exact absurd h.1 (by simp [isStr])
theorem strs_no : ∀ {xs : List D}, (xs.map isStr).all id = false → strsOf xs = none
  | [], h => by simp at h
  | y :: r, h => by
    cases y with
    | str s =>
      have h2 : (r.map isStr).all id = false := by simpa [isStr] using h
      simp [strsOf, strs_no h2]
    | _ => rfl
theorem kept_pl {P : Parts} (o : WF P) {r : D} {ss : List Str} (h : wordsOf r ss) (hk : ∀ s ∈ ss, s ∈ keysN P.bn) : pl r = true := by
  have := plL_strs fun s hs => keys_word o (hk s hs)
  rcases h with rfl | rfl <;> (unfold pl; exact this)
theorem kept_size {P : Parts} (o : WF P) {ss : List Str} (hk : ∀ s ∈ ss, s ∈ keysN P.bn) (nd : ss.Nodup) : ss.length ≤ P.bn.length := by
  have := len_sub nd hk
  rw [len_keysN] at this
  exact this
theorem kept_len {P : Parts} (o : WF P) {r : D} {ss : List Str} (h : wordsOf r ss) (hk : ∀ s ∈ ss, s ∈ keysN P.bn) (nd : ss.Nodup) : ∀ xs, elemsOf r = some xs → xs.length ≤ 4000 := fun xs e => by
  have := kept_size o hk nd
  obtain ⟨_, z2, _, _, _⟩ := o.sm
  rcases h with rfl | rfl <;> (cases e; rw [List.length_map]; omega)
theorem W.same {a b : W} (hm : a.m = b.m) (hn : a.n = b.n) (he : a.e = b.e) : a = b := by
  cases a; cases b; cases hm; cases hn; cases he; rfl
theorem put2 {w w1 : W} {k : Nat} {p q : Addr} {A A' B B' : MO} (hqp : q ≠ p) (hm : w1.m = updM (updM w.m p A) q B) (hn : w1.n = w.n + k) (he : w1.e = w.e := by rfl) : (w1.put p A').put q B' = ((w.tick k).put p A').put q B' := by
  refine W.same ?_ hn he
  show updM (updM w1.m p A') q B' = updM (updM w.m p A') q B'
  rw [hm, updM_comm hqp, updM_upd, updM_upd]
theorem del2 {w : W} {p q : Addr} {A B : MO} (hqp : q ≠ p) (hp : w.m p = none) (hq : w.m q = none) : (((w.put p A).put q B).del p).del q = w := by
  refine W.same ?_ rfl rfl
  funext b
  show delM (delM (updM (updM w.m p A) q B) p) q b = w.m b
  unfold delM updM
  by_cases h1 : b = q
  · rw [if_pos h1, h1, hq]
  · rw [if_neg h1]
    by_cases h2 : b = p
    · rw [if_pos h2, h2, hp]
    · rw [if_neg h2, if_neg h1, if_neg h2]
theorem st_held {m : Mem} {p q : Addr} {X A A' X' : MO} (hqp : q ≠ p) (hq : m q = none) : updM (delM (updM (updM (updM m p X) q A) q A') q) p X' = updM m p X' := by
  funext b
  unfold delM updM
  by_cases h1 : b = p
  · rw [if_pos h1, if_pos h1]
  · rw [if_neg h1, if_neg h1]
    show (if b = q then none else if b = q then some A' else if b = q then some A else if b = p then some X else m b) = m b
    by_cases h2 : b = q
    · rw [if_pos h2, h2, hq]
    · rw [if_neg h2, if_neg h2, if_neg h2, if_neg h1]
theorem show_r {r : D} {ys : List Str} (h : wordsOf r ys) (hw : ∀ s ∈ ys, wordS s = true) (hl : ys.length ≤ 10000) : ∃ d, toPy r = some d ∧ ShowOk d := by
  rcases h with rfl | rfl
  · refine ⟨_, toPy_lst ys, ?_⟩
    have l := Lay.lst (k := 0) (n := 8) (ps := ys.map PyData.str) fun p hp => by
      obtain ⟨s, hs, rfl⟩ := List.mem_map.mp hp
      exact Lay.word (hw s hs)
    exact l.show (by decide) (by rw [List.length_map]; omega)
  · exact ⟨_, toPy_tup ys, show_words hw hl⟩
theorem any_no {α : Type} (xs : List α) : (xs.map fun _ => false).any id = false := by
  induction xs with
  | nil => rfl
  | cons x r ih => rw [List.map_cons, List.any_cons, ih]; rfl
theorem bls_map {α : Type} (p : α → Bool) : ∀ xs : List α, blsOf (xs.map fun a => D.bl (p a)) = some (xs.map p)
  | [] => rfl
  | x :: r => by
    rw [List.map_cons, List.map_cons]
    simp [blsOf, bls_map p r]
theorem toPy_obsL (xs : List (List Str)) : toPy (.lst (xs.map obD)) = some (.list (xs.map obP)) := by simp [toPy, toPy_obs]
/-! words that a binding can have, among those of the program -/
def wordsP (P : Parts) : List Str := (P.bn.map fun e => e.2.2) ++ P.ou.map fun e => e.2.2
def choiceN (P : Parts) (b : Str) : List Str := (sortT (nubT (wordsP P))).filter (canB P b)
theorem wordsP_sort (P : Parts) : sortT (nubT (wordsP (sortP P))) = sortT (nubT (wordsP P)) := by
  refine sort_nub fun t => ?_
  have e1 : ∀ t, t ∈ (ascN P.bn).map (fun e => e.2.2) ↔ t ∈ P.bn.map fun e => e.2.2 := fun t => ((ascN_perm P.bn).map _).mem_iff
  have e2 : ∀ t, t ∈ (ascN P.ou).map (fun e => e.2.2) ↔ t ∈ P.ou.map fun e => e.2.2 := fun t => ((ascN_perm P.ou).map _).mem_iff
  show t ∈ (ascN P.bn).map (fun e => e.2.2) ++ (ascN P.ou).map (fun e => e.2.2) ↔ t ∈ (P.bn.map fun e => e.2.2) ++ P.ou.map fun e => e.2.2
  rw [List.mem_append, List.mem_append, e1, e2]
theorem choiceN_sort {P : Parts} (o : WF P) (b : Str) : choiceN (sortP P) b = choiceN P b := by
  unfold choiceN
  rw [wordsP_sort]
  exact List.filter_congr fun x _ => canB_sort o b x
theorem wordsP_word {P : Parts} (o : WF P) : ∀ t ∈ wordsP P, wordS t = true := fun t ht => by
  rcases List.mem_append.mp ht with h | h
  · obtain ⟨e, he, rfl⟩ := List.mem_map.mp h
    exact (o.bwd e he).2.1
  · obtain ⟨e, he, rfl⟩ := List.mem_map.mp h
    exact (o.owd e he).2.1
theorem wordsP_len {P : Parts} (o : WF P) : (wordsP P).length ≤ 2000 := by
  unfold wordsP
  rw [List.length_append, List.length_map, List.length_map]
  obtain ⟨_, h1, _, h2, _⟩ := o.sm
  omega
theorem choiceN_word {P : Parts} (o : WF P) (b : Str) : ∀ t ∈ choiceN P b, wordS t = true := fun t ht => wordsP_word o t (nubT_mem.mp (mem_sortT.mp (List.mem_filter.mp ht).1))
theorem choiceN_len {P : Parts} (o : WF P) (b : Str) : (choiceN P b).length ≤ 2000 := by
  refine Nat.le_trans (List.length_filter_le _ _) ?_
  rw [sortT_len]
  exact Nat.le_trans (nubT_len _) (wordsP_len o)
theorem val_key {t : Tb} {s : Str} : (valD (tbK t) (.inr s)).isSome = decide (s ∈ keysN t) := isKey_mK pD
/-- what stands for a set of texts: a list, a tuple, a dict, a list that changes -/
def memW (r : D) (ss : List Str) (w : W) : Prop := r = .lst (ss.map .str) ∨ r = .tup (ss.map .str) ∨ (∃ t : Tb, r = .dic (tbK t) ∧ ss = keysN t) ∨ ∃ p, r = .ref p ∧ w.m p = some (.lst (ss.map .str))
theorem memW_words {r : D} {ss : List Str} {w : W} (h : wordsOf r ss) : memW r ss w := h.elim .inl fun h => .inr (.inl h)
def meets1 (b : Str) (kept : List Str) (q : Str × Str) : Bool := (decide (b = q.1) && decide (q.2 ∈ kept)) || (decide (b = q.2) && decide (q.1 ∈ kept))
def meetsB (P : Parts) (b : Str) (kept : List Str) : Bool := (confN P).any (meets1 b kept)
theorem strLt_irr (a : Str) : strLt a a = false := by
  rw [ltT_not]
  have := leT_total a a
  simp at this
  rw [this]
  rfl
theorem confN_lt {P : Parts} {q : Str × Str} (h : q ∈ confN P) : q.1 ≠ q.2 := by
  unfold confN at h
  obtain ⟨a, ha, h⟩ := List.mem_flatMap.mp h
  unfold rowC at h
  obtain ⟨b, hb, rfl⟩ := List.mem_map.mp h
  have := (List.mem_filter.mp (List.mem_filter.mp hb).1).2
  intro e
  have e : a = b := e
  rw [e, strLt_irr] at this
  cases this
structure NoObs (P : Parts) (K : List Str) : Prop where
  bar : ∀ b ∈ K, b ∉ barredN P
  con : ∀ q ∈ confN P, ¬ (q.1 ∈ K ∧ q.2 ∈ K)
theorem obsAll_nil {P : Parts} {K : List Str} : obsAll P K = [] ↔ NoObs P K := by
  unfold obsAll
  rw [List.append_eq_nil_iff, List.map_eq_nil_iff, List.map_eq_nil_iff, List.filter_eq_nil_iff, List.filter_eq_nil_iff]
  constructor
  · rintro ⟨h1, h2⟩
    refine ⟨fun b hb hb2 => h1 b hb2 (decide_eq_true hb), fun q hq hk => h2 q hq ?_⟩
    rw [decide_eq_true hk.1, decide_eq_true hk.2]
    rfl
  · rintro ⟨h1, h2⟩
    refine ⟨fun b hb hk => h1 b (of_decide_eq_true hk) hb, fun q hq hk => h2 q hq ?_⟩
    rw [Bool.and_eq_true] at hk
    exact ⟨of_decide_eq_true hk.1, of_decide_eq_true hk.2⟩
theorem NoObs.add {P : Parts} {K : List Str} {b : Str} (h : NoObs P K) : NoObs P (K ++ [b]) ↔ b ∉ barredN P ∧ meetsB P b K = false := by
  constructor
  · rintro ⟨h1, h2⟩
    refine ⟨h1 b (by simp), ?_⟩
    unfold meetsB
    rw [List.any_eq_false]
    intro q hq hm
    unfold meets1 at hm
    rw [Bool.or_eq_true, Bool.and_eq_true, Bool.and_eq_true] at hm
    rcases hm with ⟨e1, e2⟩ | ⟨e1, e2⟩
    · exact h2 q hq ⟨by rw [← of_decide_eq_true e1]; simp, List.mem_append_left _ (of_decide_eq_true e2)⟩
    · exact h2 q hq ⟨List.mem_append_left _ (of_decide_eq_true e2), by rw [← of_decide_eq_true e1]; simp⟩
  · rintro ⟨h1, h2⟩
    unfold meetsB at h2
    rw [List.any_eq_false] at h2
    refine ⟨fun c hc => ?_, fun q hq hk => ?_⟩
    · rcases List.mem_append.mp hc with hc | hc
      · exact h.bar c hc
      · rw [List.mem_singleton.mp hc]; exact h1
    · have no := h2 q hq
      unfold meets1 at no
      rcases List.mem_append.mp hk.1 with k1 | k1 <;> rcases List.mem_append.mp hk.2 with k2 | k2
      · exact h.con q hq ⟨k1, k2⟩
      · have e := List.mem_singleton.mp k2
        exact no (by rw [decide_eq_true e.symm, decide_eq_true k1]; simp)
      · have e := List.mem_singleton.mp k1
        exact no (by rw [decide_eq_true e.symm, decide_eq_true k2]; simp)
      · exact confN_lt hq ((List.mem_singleton.mp k1).trans (List.mem_singleton.mp k2).symm)
theorem NoObs.nil (P : Parts) : NoObs P [] := ⟨fun b hb => (nomatch hb), fun q _ hk => (nomatch hk.1)⟩
theorem obsN_dec {P : Parts} {K : List Str} : obsN P K = [] ↔ NoObs P K := by rw [obsN_nil, obsAll_nil]
def restN (P : Parts) (K : List Str) : List Str := ((sortT (keysN P.bn)).filter fun b => !decide (b ∈ barredN P)).filter fun b => !decide (b ∈ K) && !meetsB P b K
theorem restN_mem {P : Parts} {K : List Str} {b : Str} : b ∈ restN P K ↔ b ∈ keysN P.bn ∧ b ∉ barredN P ∧ b ∉ K ∧ meetsB P b K = false := by
  unfold restN
  rw [List.mem_filter, List.mem_filter, mem_sortT]
  simp [and_assoc]
def headO : List (List Str) → D
  | [] => .non
  | x :: _ => obD x
/-- x != [], x == [] of obstacles -/
theorem obs_nil {neg : Bool} {P : Parts} (o : WF P) {kept : List Str} {w : W} {Q : DK} (q : Q (.bl (neg ^^ decide (obsN P kept = []))) w) : eqR neg (.lst ((obsN P kept).map obD)) (.lst []) w Q := by
  have l := Lay.lst (lay_obs o (kept := kept))
  refine ⟨_, _, toPy_obsL _, rfl, l.shaped (by decide), rfl, ?_⟩
  have e : PyData.eqv (.list ((obsN P kept).map obP)) (.list []) = decide (obsN P kept = []) := by
    have := eqv_obs (obsN P kept) []
    simp only [PyData.eqv]
    exact this
  rw [e]
  exact q
/-- a list, a tuple, a dict -/
def memD (r : D) (ss : List Str) : Prop := r = .lst (ss.map .str) ∨ r = .tup (ss.map .str) ∨ ∃ t : Tb, r = .dic (tbK t) ∧ ss = keysN t
theorem memD_words {r : D} {ss : List Str} (h : wordsOf r ss) : memD r ss := h.elim .inl fun h => .inr (.inl h)
def touch (b : Str) (kept : List Str) (q : Str × Str) : Bool := decide (b ∈ [q.1, q.2]) && [q.1, q.2].any fun c => decide (c ∈ kept)
theorem touch_meets {b : Str} {kept : List Str} (h : b ∉ kept) (q : Str × Str) : touch b kept q = meets1 b kept q := by
  unfold touch meets1
  by_cases h1 : b = q.1
  · have n1 : q.1 ∉ kept := h1 ▸ h
    by_cases h2 : b = q.2
    · have n2 : q.2 ∉ kept := h2 ▸ h
      simp [n1, n2]
    · simp [h1, n1]
  · by_cases h2 : b = q.2
    · have n2 : q.2 ∉ kept := h2 ▸ h
      simp [h1, h2, n2]
    · simp [h1, h2]
theorem restN_len {P : Parts} (o : WF P) (K : List Str) : (restN P K).length ≤ 1000 := by
  refine Nat.le_trans (List.length_filter_le _ _) (Nat.le_trans (List.length_filter_le _ _) ?_)
  rw [sortT_len, len_keysN]
  exact o.sm.2.1
theorem restN_word {P : Parts} (o : WF P) {K : List Str} : ∀ b ∈ restN P K, wordS b = true := fun b hb => keys_word o (restN_mem.mp hb).1
theorem meetsB_congr {P : Parts} {k k' : List Str} (h : ∀ s, s ∈ k ↔ s ∈ k') (b : Str) : meetsB P b k = meetsB P b k' := by
  have e : ∀ s, decide (s ∈ k) = decide (s ∈ k') := fun s => decide_eq_decide.mpr (h s)
  unfold meetsB meets1
  simp only [e]
theorem restN_congr {P : Parts} {k k' : List Str} (h : ∀ s, s ∈ k ↔ s ∈ k') : restN P k = restN P k' := by
  unfold restN
  refine List.filter_congr fun b _ => ?_
  rw [meetsB_congr h, decide_eq_decide.mpr (h b)]
theorem restN_sort {P : Parts} (o : WF P) (K : List Str) : restN (sortP P) K = restN P K := by
  unfold restN meetsB
  rw [sort_keys, barredN_sort o, confN_sort o]
theorem NoObs.congr {P : Parts} {k k' : List Str} (h : ∀ s, s ∈ k ↔ s ∈ k') (n : NoObs P k) : NoObs P k' := obsN_dec.mp (obsN_congr h ▸ obsN_dec.mpr n)
theorem NoObs.sort {P : Parts} (o : WF P) {K : List Str} (n : NoObs P K) : NoObs (sortP P) K := obsN_dec.mp (by rw [obsN_sort o]; exact obsN_dec.mpr n)
theorem rest_due {P : Parts} {K : List Str} (n : NoObs P K) : (sortT (keysN P.bn)).filter (fun b => !decide (b ∈ K) && decide (obsN P (K ++ [b]) = [])) = restN P K := by
  unfold restN
  rw [List.filter_filter]
  refine List.filter_congr fun b _ => ?_
  have e : decide (obsN P (K ++ [b]) = []) = (!decide (b ∈ barredN P) && !meetsB P b K) := by
    rw [Bool.eq_iff_iff, decide_eq_true_eq, obsN_dec, n.add]
    simp
  rw [e]
  cases decide (b ∈ K) <;> cases decide (b ∈ barredN P) <;> cases meetsB P b K <;> rfl
theorem strsOf_inv : ∀ {xs : List D} {ss : List Str}, strsOf xs = some ss → xs = ss.map .str
  | [], ss, h => by simp [strsOf] at h; subst h; rfl
  | x :: r, ss, h => by
    cases x <;> simp only [strsOf, reduceCtorEq, Option.map_eq_some_iff] at h
    obtain ⟨t, e, rfl⟩ := h
    rw [strsOf_inv e]
    rfl
theorem keptB_inv {P : Parts} {d : D} (h : keptB P d = true) : ∃ K, wordsOf d K ∧ (∀ s ∈ K, s ∈ keysN P.bn) ∧ K.Nodup := by
  unfold keptB at h
  cases e : elemsOf d with
  | none => rw [e] at h; cases h
  | some xs =>
    rw [e] at h
    have h : (match strsOf xs with | some ss => ss.all (fun s => decide (s ∈ keysN P.bn)) && decide ((nubT ss).length = ss.length) | none => false) = true := h
    cases e2 : strsOf xs with
    | none => rw [e2] at h; cases h
    | some ss =>
      rw [e2] at h
      have h : (ss.all (fun s => decide (s ∈ keysN P.bn)) && decide ((nubT ss).length = ss.length)) = true := h
      rw [Bool.and_eq_true] at h
      have ex := strsOf_inv e2
      refine ⟨ss, ?_, fun s hs => of_decide_eq_true (List.all_eq_true.mp h.1 s hs), nub_len.mp (of_decide_eq_true h.2)⟩
      cases d <;> simp only [elemsOf, reduceCtorEq, Option.some.injEq] at e
      · exact .inl (by rw [e, ex])
      · exact .inr (by rw [e, ex])

end DL
namespace DL
open PySem PySem.Spec PyProof.Rows L2
/-! prices -/
abbrev Co := Tab Int
abbrev coK (c : Co) : List (Key × D) := mK D.int c
structure CoOk (c : Co) : Prop where
  nd : (keysN c).Nodup
  wd : ∀ e ∈ c, wordS e.1 = true ∧ 1 ≤ e.2 ∧ e.2 ≤ 999
  sm : c.length ≤ 200
def isInt (lo hi : Int) : D → Bool
  | .int i => decide (lo ≤ i) && decide (i ≤ hi)
  | _ => false
def areP : D → Bool
  | .dic kvs => (ditems kvs).all fun x => match x with | .tup [k, v] => isWord k && isInt 1 999 v | _ => false
  | _ => false
theorem areP_co {c : Co} (h : CoOk c) : areP (.dic (coK c)) = true := by
  show ((ditems (coK c)).all fun x => match x with | .tup [k, v] => isWord k && isInt 1 999 v | _ => false) = true
  rw [ditems_mK]
  refine List.all_eq_true.mpr fun x hx => ?_
  obtain ⟨e, he, rfl⟩ := List.mem_map.mp hx
  obtain ⟨h1, h2, h3⟩ := h.wd e he
  show (wordS e.1 && (decide (1 ≤ e.2) && decide (e.2 ≤ 999))) = true
  rw [h1, decide_eq_true h2, decide_eq_true h3]
  rfl
theorem word_size {s : Str} (h : wordS s = true) : s.length ≤ sizeLine := Nat.le_trans (word_len h) (by rw [sizeLine_eq]; decide)
theorem pl_co : ∀ {c : Co}, (∀ e ∈ c, wordS e.1 = true) → plK (coK c) = true
  | [], _ => rfl
  | e :: r, h => by
    have ih := pl_co (c := r) fun x hx => h x (List.mem_cons_of_mem _ hx)
    show plK ((Sum.inr e.1, D.int e.2) :: coK r) = true
    unfold plK pl
    rw [ih]
    have h1 : decide (e.1.length ≤ sizeLine) = true := decide_eq_true (word_size (h e (List.mem_cons_self ..)))
    show (decide (e.1.length ≤ sizeLine) && true && true) = true
    rw [h1]
    rfl
/-- what repr takes, dicts too -/
structure Sm (k n : Nat) (p : PyData) : Prop where
  sh : p.showable = true
  dp : p.depth ≤ k
  wt : p.weight ≤ n
  is : p.leavesShort 13 = true
theorem Sm.show {k n : Nat} {p : PyData} (h : Sm k n p) (hk : k ≤ 60) (hn : n ≤ 2 ^ 20) : ShowOk p :=
  ⟨h.sh, Nat.le_trans h.dp hk, PyData.shown_fits (B := 13) (by decide) (by decide) h.is (Nat.le_trans h.wt hn), fun _ => rfl⟩
theorem Lay.sm {k n : Nat} {p : PyData} (h : Lay k n p) : Sm k n p := ⟨h.sh, h.dp, h.wt, PyData.leavesShort_of_canLay0 13 p h.lay h.is⟩
theorem Sm.int {i : Int} (h : i.natAbs < 1024) : Sm 0 10 (.int i) := by
  have hl : i.natAbs.log2 < 10 := by
    by_cases z : i.natAbs = 0
    · rw [z]; decide
    · exact (Nat.log2_lt z).mpr h
  refine ⟨?_, Nat.le_refl _, ?_, ?_⟩
  · unfold PyData.showable
    exact decide_eq_true (by omega)
  · unfold PyData.weight
    split
    · exact Nat.zero_le _
    · omega
  · unfold PyData.leavesShort
    exact decide_eq_true (PyData.shown_int_le (Nat.lt_of_lt_of_le h (by decide)))
structure SmKv (k n : Nat) (ps : List (PyData × PyData)) : Prop where
  sh : PyData.showableKv ps = true
  dp : PyData.depthKv ps ≤ k
  wt : PyData.weightKv ps ≤ ps.length * (n + 2)
  is : PyData.leavesShortKv 13 ps = true
theorem SmKv.of {k n m : Nat} : ∀ {ps : List (PyData × PyData)}, (∀ p ∈ ps, Sm k n p.1 ∧ Sm k m p.2) → SmKv k (n + m) ps
  | [], _ => ⟨rfl, Nat.zero_le _, Nat.zero_le _, rfl⟩
  | (a, b) :: r, h => by
    obtain ⟨h1, h2⟩ := h (a, b) (List.mem_cons_self ..)
    have ih := SmKv.of fun q hq => h q (List.mem_cons_of_mem _ hq)
    refine ⟨?_, Nat.max_le.mpr ⟨Nat.max_le.mpr ⟨h1.dp, h2.dp⟩, ih.dp⟩, ?_, ?_⟩
    · unfold PyData.showableKv; rw [h1.sh, h2.sh, ih.sh]; rfl
    · unfold PyData.weightKv
      have w1 : a.weight ≤ n := h1.wt
      have w2 : b.weight ≤ m := h2.wt
      have w3 := ih.wt
      rw [List.length_cons, Nat.succ_mul]
      omega
    · unfold PyData.leavesShortKv; rw [h1.is, h2.is, ih.is]; rfl
theorem Sm.dic {k n m : Nat} {ps : List (PyData × PyData)} (h : ∀ p ∈ ps, Sm k n p.1 ∧ Sm k m p.2) : Sm (k + 1) (ps.length * (n + m + 2)) (.dict ps) :=
  have a := SmKv.of h
  ⟨a.sh, Nat.succ_le_succ a.dp, a.wt, a.is⟩
def coP (c : Co) : PyData := .dict (c.map fun e => (.str e.1, .int e.2))
theorem toPyK_co : ∀ c : Co, toPyK (coK c) = some (c.map fun e => (.str e.1, .int e.2))
  | [] => rfl
  | e :: r => by
    show toPyK ((Sum.inr e.1, D.int e.2) :: coK r) = _
    simp only [toPyK, toPy, toPyK_co r]
    rfl
theorem toPy_co (c : Co) : toPy (.dic (coK c)) = some (coP c) := by simp [toPy, toPyK_co, coP]
theorem sm_co {c : Co} (h : CoOk c) : Sm 1 (c.length * 20) (coP c) := by
  have := Sm.dic (k := 0) (n := 8) (m := 10) (ps := c.map fun e => (PyData.str e.1, PyData.int e.2)) fun p hp => by
    obtain ⟨e, he, rfl⟩ := List.mem_map.mp hp
    obtain ⟨h1, h2, h3⟩ := h.wd e he
    exact ⟨(Lay.word h1).sm, Sm.int (by omega)⟩
  rw [List.length_map] at this
  exact this
theorem show_co {c : Co} (h : CoOk c) : ShowOk (coP c) := (sm_co h).show (by decide) (by have := h.sm; omega)
/-- the bindings without a price -/
def firmN (P : Parts) (kvs : List (Key × D)) : List Str := (keysN P.bn).filter fun b => !(valD kvs (.inr b)).isSome
theorem firmN_mem {P : Parts} {kvs : List (Key × D)} {b : Str} : b ∈ firmN P kvs ↔ b ∈ keysN P.bn ∧ (valD kvs (.inr b)).isSome = false := by
  unfold firmN
  rw [List.mem_filter]
  simp
theorem firmN_nodup {P : Parts} (o : WF P) (kvs : List (Key × D)) : (firmN P kvs).Nodup := o.bnd.sublist List.filter_sublist
theorem firmN_sort {P : Parts} (kvs : List (Key × D)) : ∀ b, b ∈ firmN (sortP P) kvs ↔ b ∈ firmN P kvs := fun b => by
  rw [firmN_mem, firmN_mem]
  have : b ∈ keysN (sortP P).bn ↔ b ∈ keysN P.bn := (perm_keys (ascN_perm P.bn)).mem_iff
  rw [this]
theorem obs_firm {P : Parts} (o : WF P) (kvs : List (Key × D)) : obsN (sortP P) (firmN (sortP P) kvs) = obsN P (firmN P kvs) := by
  rw [obsN_sort o]
  exact obsN_congr (firmN_sort kvs)
/-- the plain word of blocked -/
noncomputable def blockD (P : Parts) (kvs : List (Key × D)) : D := headO (obsN P (firmN P kvs))
def hobP : List (List Str) → PyData
  | [] => .none
  | q :: _ => obP q
theorem toPy_obHead : ∀ xs : List (List Str), toPy (headO xs) = some (hobP xs)
  | [] => rfl
  | q :: _ => toPy_tup q
theorem show_obHead {P : Parts} (o : WF P) {kept : List Str} : ShowOk (hobP (obsN P kept)) := by
  have l := lay_obs o (kept := kept)
  cases h : obsN P kept with
  | nil => exact Lay.non.show (by decide) (by decide)
  | cons q r =>
    rw [h] at l
    exact (l (obP q) (List.mem_map.mpr ⟨q, List.mem_cons_self .., rfl⟩)).show (by decide) (by decide)
/-! comprehensions over the keys of a table -/
section
variable {α : Type} {gd : DTG} {tt : DTT} {te : DTE} {vs : List Nat} {env : En} {w : W} {Q : DK} {fin : List D → W → DK → Prop}
theorem lc_filtK (v : α → D) (t : Tab α) (p : Str → Bool) (f : Str → D) (hz : t.length ≤ 1000000)
    (h : ∀ a, a ∈ keysN t → ∀ (R : DK) (S : W → Prop), (p a = true → R (f a) w.mute) → (p a = false → S w.mute) → gd (.str a) (wipeD env vs) w.mute fun env2 w3 => tt env2 w3 fun b w4 => if b = true then te env2 w4 R else S w4) (hf : fin (((keysN t).filter p).map f) w Q) :
    (dkeys (mK v t)).length ≤ sizeLine ∧ ∃ Pv : Nat → List D → W → Prop, Pv 0 [] w ∧
      (∀ i x acc w2, (dkeys (mK v t))[i]? = some x → acc.length ≤ i → Pv i acc w2 → gd x (wipeD env vs) w2.mute fun env2 w3 => tt env2 w3 fun b w4 => if b = true then te env2 w4 fun y w5 => Pv (i + 1) (acc ++ [y]) (w5.as w) else Pv (i + 1) acc (w4.as w)) ∧
      ∀ acc w2, Pv (dkeys (mK v t)).length acc w2 → fin acc w2 Q := by
  rw [dkeys_mK]
  exact lc_filtM (keysN t) D.str p f (by rw [len_keysN]; exact hz) h hf
theorem lc_mapK (v : α → D) (t : Tab α) (f : Str → D) (hz : t.length ≤ 1000000) (h : ∀ a, a ∈ keysN t → ∀ R : DK, R (f a) w.mute → gd (.str a) (wipeD env vs) w.mute fun env2 w3 => te env2 w3 R) (hf : fin ((keysN t).map f) w Q) :
    (dkeys (mK v t)).length ≤ sizeLine ∧ ∃ Pv : Nat → List D → W → Prop, Pv 0 [] w ∧
      (∀ i x acc w2, (dkeys (mK v t))[i]? = some x → acc.length ≤ i → Pv i acc w2 → gd x (wipeD env vs) w2.mute fun env2 w3 => dYes env2 w3 fun b w4 => if b = true then te env2 w4 fun y w5 => Pv (i + 1) (acc ++ [y]) (w5.as w) else Pv (i + 1) acc (w4.as w)) ∧
      ∀ acc w2, Pv (dkeys (mK v t)).length acc w2 → fin acc w2 Q := by
  rw [dkeys_mK]
  exact lc_mapM (keysN t) D.str f (by rw [len_keysN]; exact hz) h hf
end

end DL
namespace DL
open PySem PySem.Spec PyProof.Rows L2
/-! programs as text -/
/-- a scope that can be written next -/
def readyB (sc : Sc) (done : List Str) (s : Str) : Bool := !decide (s ∈ done) && (match lk sc s with
  | some (some p) => decide (p ∈ done)
  | _ => true)
def nextS (sc : Sc) (ks done : List Str) : Str := ((ks.filter (readyB sc done)).head?).getD Str.empty
def ordS (sc : Sc) (ks : List Str) : Nat → List Str
  | 0 => []
  | n + 1 => ordS sc ks n ++ [nextS sc ks (ordS sc ks n)]
theorem ready_ex {sc : Sc} (o : ScOk sc) {done : List Str} : ∀ (n : Nat) (s : Str), (way sc s).length = n → s ∈ keysN sc → s ∉ done → ∃ r ∈ keysN sc, readyB sc done r = true := by
  intro n
  induction n with
  | zero =>
    intro s hn hs _
    have := o.way_len hs
    omega
  | succ n ih =>
    intro s hn hs hd
    obtain ⟨v, hv⟩ : ∃ v, lk sc s = some v := by
      obtain ⟨e, he, rfl⟩ := List.mem_map.mp hs
      exact ⟨e.2, lk_of_mem o.nd he⟩
    cases v with
    | none =>
      refine ⟨s, hs, ?_⟩
      unfold readyB
      rw [decide_eq_false hd, hv]
      rfl
    | some p =>
      by_cases hp : p ∈ done
      · refine ⟨s, hs, ?_⟩
        unfold readyB
        rw [decide_eq_false hd, hv]
        show (!false && decide (p ∈ done)) = true
        rw [decide_eq_true hp]
        rfl
      · refine ih p ?_ (o.cl s p hv) hp
        have := o.way_cons hv
        rw [this, List.length_cons] at hn
        omega
structure OrdOk (sc : Sc) (done : List Str) : Prop where
  nd : done.Nodup
  ks : ∀ s ∈ done, s ∈ keysN sc
theorem next_ready {sc : Sc} (o : ScOk sc) {ks done : List Str} (hk : ∀ s, s ∈ ks ↔ s ∈ keysN sc) (d : OrdOk sc done) (hl : done.length < sc.length) :
    ∃ x r, ks.filter (readyB sc done) = x :: r ∧ nextS sc ks done = x ∧ x ∈ keysN sc ∧ readyB sc done x = true := by
  obtain ⟨s, hs, hd⟩ : ∃ s ∈ keysN sc, s ∉ done := by
    refine Classical.byContradiction fun h => ?_
    have : ∀ s ∈ keysN sc, s ∈ done := fun s hs => Classical.byContradiction fun z => h ⟨s, hs, z⟩
    have := len_sub o.nd this
    rw [len_keysN] at this
    omega
  obtain ⟨r, h1, h2⟩ := ready_ex o _ s rfl hs hd
  cases e : ks.filter (readyB sc done) with
  | nil =>
    have := List.filter_eq_nil_iff.mp e r ((hk r).mpr h1)
    exact absurd h2 this
  | cons x t =>
    have hx : x ∈ ks.filter (readyB sc done) := by rw [e]; exact List.mem_cons_self
    obtain ⟨m1, m2⟩ := List.mem_filter.mp hx
    refine ⟨x, t, rfl, ?_, (hk x).mp m1, m2⟩
    unfold nextS
    rw [e]
    rfl
theorem ordS_len (sc : Sc) (ks : List Str) : ∀ n, (ordS sc ks n).length = n
  | 0 => rfl
  | n + 1 => by
    show (ordS sc ks n ++ [_]).length = _
    rw [List.length_append, ordS_len sc ks n]
    rfl
theorem ordS_ok {sc : Sc} (o : ScOk sc) {ks : List Str} (hk : ∀ s, s ∈ ks ↔ s ∈ keysN sc) : ∀ n, n ≤ sc.length → OrdOk sc (ordS sc ks n)
  | 0, _ => ⟨List.nodup_nil, fun _ h => nomatch h⟩
  | n + 1, h => by
    have d := ordS_ok o hk n (by omega)
    obtain ⟨x, r, e, ex, h1, h2⟩ := next_ready o hk d (by rw [ordS_len]; omega)
    have hx : x ∉ ordS sc ks n := fun z => by
      unfold readyB at h2
      rw [decide_eq_true z] at h2
      cases h2
    show OrdOk sc (ordS sc ks n ++ [nextS sc ks (ordS sc ks n)])
    rw [ex]
    refine ⟨List.nodup_append.mpr ⟨d.nd, by simp, fun a ha b hb => ?_⟩, fun s hs => ?_⟩
    · rw [List.mem_singleton.mp hb]
      exact fun z => hx (z ▸ ha)
    · rcases List.mem_append.mp hs with hs | hs
      · exact d.ks s hs
      · rw [List.mem_singleton.mp hs]
        exact h1
theorem ready_congr {sc sc' : Sc} (h : ∀ s, lk sc s = lk sc' s) (done : List Str) (s : Str) : readyB sc done s = readyB sc' done s := by
  unfold readyB
  rw [h s]
theorem ordS_congr {sc sc' : Sc} (h : ∀ s, lk sc s = lk sc' s) (ks : List Str) : ∀ n, ordS sc ks n = ordS sc' ks n
  | 0 => rfl
  | n + 1 => by
    show ordS sc ks n ++ [nextS sc ks (ordS sc ks n)] = ordS sc' ks n ++ [nextS sc' ks (ordS sc' ks n)]
    rw [ordS_congr h ks n]
    unfold nextS
    rw [funext (ready_congr h (ordS sc' ks n))]
/-- the word of a scope's parent -/
def parS (sc : Sc) (s : Str) : Str := match lk sc s with
  | some (some p) => p
  | _ => "-"
def lineS (sc : Sc) (s : Str) : Str := Str.empty ++ "scope " ++ s ++ " " ++ parS sc s
def entL (kind : Str) (e : Str × (Str × Str)) : Str := Str.empty ++ kind ++ " " ++ e.1 ++ " " ++ e.2.1 ++ " " ++ e.2.2
def wordL (w : Str) : Str := Str.empty ++ "word " ++ w
def scL (sc : Sc) (ks : List Str) : List Str := (ordS sc ks sc.length).map (lineS sc)
def allL (P : Parts) : List Str := scL P.sc (keysN P.sc) ++ P.bn.map (entL "bind") ++ P.us.map (entL "use") ++ P.ou.map (entL "outer") ++ P.rs.map wordL
def textN (P : Parts) : Str := Txt.join "\n" (allL P)
theorem len_app (a b : Str) : (a ++ b).length = a.length + b.length := by
  show (a.cps ++ b.cps).size = a.cps.size + b.cps.size
  exact Array.size_append
theorem parS_len {sc : Sc} (o : ScOk sc) {s : Str} : (parS sc s).length ≤ 8 := by
  unfold parS
  split
  · rename_i p e
    exact word_len (o.wd p (o.cl s p e))
  · decide
theorem lineS_len {sc : Sc} (o : ScOk sc) {s : Str} (hs : s ∈ keysN sc) : (lineS sc s).length ≤ 40 := by
  unfold lineS
  have h1 := word_len (o.wd s hs)
  have h2 := parS_len o (s := s)
  have e1 : (Str.empty : Str).length = 0 := rfl
  have e2 : ("scope " : Str).length = 6 := rfl
  have e3 : (" " : Str).length = 1 := rfl
  rw [len_app, len_app, len_app, len_app, e1, e2, e3]
  omega
theorem entL_len {k : Str} (hk : k.length ≤ 5) {e : Str × (Str × Str)} (h1 : wordS e.1 = true) (h2 : wordS e.2.1 = true) (h3 : wordS e.2.2 = true) : (entL k e).length ≤ 40 := by
  unfold entL
  have h1 := word_len h1
  have h2 := word_len h2
  have h3 := word_len h3
  have e1 : (Str.empty : Str).length = 0 := rfl
  have e3 : (" " : Str).length = 1 := rfl
  rw [len_app, len_app, len_app, len_app, len_app, len_app, len_app, e1, e3]
  omega
theorem wordL_len {w : Str} (h : wordS w = true) : (wordL w).length ≤ 40 := by
  unfold wordL
  have h := word_len h
  have e1 : (Str.empty : Str).length = 0 := rfl
  have e2 : ("word " : Str).length = 5 := rfl
  rw [len_app, len_app, e1, e2]
  omega
theorem allL_len {P : Parts} (o : WF P) : ∀ l ∈ allL P, l.length ≤ 40 := fun l hl => by
  unfold allL at hl
  rcases List.mem_append.mp hl with hl | hl
  · rcases List.mem_append.mp hl with hl | hl
    · rcases List.mem_append.mp hl with hl | hl
      · rcases List.mem_append.mp hl with hl | hl
        · obtain ⟨s, hs, rfl⟩ := List.mem_map.mp hl
          exact lineS_len o.sc ((ordS_ok o.sc (fun _ => Iff.rfl) _ (Nat.le_refl _)).ks s hs)
        · obtain ⟨e, he, rfl⟩ := List.mem_map.mp hl
          obtain ⟨h1, h2, h3⟩ := o.bwd e he
          exact entL_len (by decide) h1 (o.sc.wd _ h3) h2
      · obtain ⟨e, he, rfl⟩ := List.mem_map.mp hl
        obtain ⟨h1, h2, b, h3, h4⟩ := o.uwd e he
        exact entL_len (by decide) h1 (o.sc.wd _ h2) (o.bwd _ (lk_mem h3)).1
    · obtain ⟨e, he, rfl⟩ := List.mem_map.mp hl
      obtain ⟨h1, h2, h3⟩ := o.owd e he
      exact entL_len (by decide) h1 (o.sc.wd _ h3) h2
  · obtain ⟨s, hs, rfl⟩ := List.mem_map.mp hl
    exact wordL_len (o.rwd s hs)
theorem allL_count {P : Parts} (o : WF P) : (allL P).length ≤ 5000 := by
  obtain ⟨z1, z2, z3, z4, z5⟩ := o.sm
  unfold allL scL
  rw [List.length_append, List.length_append, List.length_append, List.length_append, List.length_map, List.length_map, List.length_map, List.length_map, List.length_map, ordS_len]
  omega
theorem sum_le {l : List Str} {b : Nat} : (∀ x ∈ l, x.length ≤ b) → (l.map (·.length)).sum ≤ l.length * b := by
  intro h
  induction l with
  | nil => exact Nat.zero_le _
  | cons x r ih =>
    have h1 := h x List.mem_cons_self
    have h2 := ih fun y hy => h y (List.mem_cons_of_mem _ hy)
    rw [List.map_cons, List.sum_cons, List.length_cons, Nat.succ_mul]
    omega
theorem text_fits {P : Parts} (o : WF P) : ((allL P).map (·.length)).sum + (allL P).length * ("\n" : Str).length ≤ 16777216 := by
  have h1 := sum_le (allL_len o)
  have h2 := allL_count o
  have e : ("\n" : Str).length = 1 := rfl
  rw [e]
  omega
theorem W.put_comm {w : W} {a b : Addr} {x y : MO} (h : a ≠ b) : (w.put a x).put b y = (w.put b y).put a x := by
  show W.mk (updM (updM w.m a x) b y) w.n w.e = W.mk (updM (updM w.m b y) a x) w.n w.e
  rw [updM_comm h]
theorem ditems_tb (t : Tb) : ditems (tbK t) = t.map fun e => .tup [.str e.1, pD e.2] := by
  unfold ditems tbK mK
  rw [List.map_map]
  rfl
theorem filter_sole {l : List Str} {p : Str → Bool} {x : Str} (nd : l.Nodup) (hx : x ∈ l) (h : ∀ y ∈ l, p y = true ↔ y = x) : l.filter p = [x] := by
  induction l with
  | nil => cases hx
  | cons a r ih =>
    have hn := List.nodup_cons.mp nd
    rw [List.filter_cons]
    by_cases e : a = x
    · subst e
      rw [if_pos ((h a List.mem_cons_self).mpr rfl)]
      have : r.filter p = [] := List.filter_eq_nil_iff.mpr fun y hy z => by
        have := (h y (List.mem_cons_of_mem _ hy)).mp z
        rw [this] at hy
        exact hn.1 hy
      rw [this]
    · rw [if_neg fun z => e ((h a List.mem_cons_self).mp z)]
      refine ih hn.2 ?_ fun y hy => h y (List.mem_cons_of_mem _ hy)
      rcases List.mem_cons.mp hx with z | z
      · exact absurd z.symm e
      · exact z
def rootB (sc : Sc) (s : Str) : Bool := match lk sc s with
  | some none => true
  | _ => false
theorem root_next {sc : Sc} (o : ScOk sc) {ks : List Str} (hk : ∀ s, s ∈ ks ↔ s ∈ keysN sc) : ∃ r, nextS sc ks [] = r ∧ r ∈ keysN sc ∧ (keysN sc).filter (rootB sc) = [r] ∧ ∀ s, lk sc s = some none → s = r := by
  obtain ⟨r0, h0, _, hu⟩ := o.root_eq
  have hr0 : r0 ∈ keysN sc := lk_key h0
  obtain ⟨x, t, e1, e2, e3, e4⟩ := next_ready o hk (done := []) ⟨List.nodup_nil, fun _ h => nomatch h⟩ (o.pos hr0)
  have hx : x = r0 := by
    obtain ⟨e, he, es⟩ := List.mem_map.mp e3
    have hlk : lk sc x = some e.2 := by rw [← es]; exact lk_of_mem o.nd he
    cases e5 : e.2 with
    | none => rw [e5] at hlk; exact hu x hlk
    | some p =>
      rw [e5] at hlk
      unfold readyB at e4
      rw [hlk] at e4
      cases e4
  subst hx
  refine ⟨x, e2, e3, filter_sole o.nd e3 fun y hy => ⟨fun h => ?_, fun h => ?_⟩, hu⟩
  · unfold rootB at h
    split at h
    · rename_i e; exact hu y e
    · cases h
  · subst h
    unfold rootB
    rw [h0]
theorem root_in {sc : Sc} {ks : List Str} : ∀ {n : Nat}, 1 ≤ n → nextS sc ks [] ∈ ordS sc ks n
  | 1, _ => List.mem_singleton.mpr rfl
  | n + 2, _ => List.mem_append_left _ (root_in (n := n + 1) (by omega))
theorem memS_non (ys : List Str) : memS .non (ys.map D.str) = false := by
  unfold memS
  rw [List.any_map]
  exact List.any_eq_false.mpr fun _ _ h => by cases h
theorem str_assoc (a b c : Str) : a ++ b ++ c = a ++ (b ++ c) := congrArg Str.mk (Array.append_assoc (xs := a.cps) (ys := b.cps) (zs := c.cps))
theorem str_nil (a : Str) : Str.empty ++ a = a := congrArg Str.mk (Array.empty_append (xs := a.cps))
def rowE (k : Str) (t : Tb) (s : Str) : List Str := match lk t s with
  | some p => [k, s, p.1, p.2]
  | none => []
def scopeR (sc : Sc) (s : Str) : List Str := ["scope", s, parS sc s]
def wordR (s : Str) : List Str := ["word", s]
def rowsS (P : Parts) : List (List Str) := (ordS P.sc (sortT (keysN P.sc)) P.sc.length).map (scopeR P.sc) ++ (sortT (keysN P.bn)).map (rowE "bind" P.bn) ++ (sortT (keysN P.us)).map (rowE "use" P.us) ++ (sortT (keysN P.ou)).map (rowE "outer" P.ou) ++ (sortT (nubT P.rs)).map wordR
theorem join2 (k s : Str) : Txt.join " " [k, s] = k ++ (" " ++ s) := by
  rw [TL.join_eq]
  show k ++ " " ++ s = _
  rw [str_assoc]
theorem join3 (k s a : Str) : Txt.join " " [k, s, a] = k ++ (" " ++ (s ++ (" " ++ a))) := by
  rw [TL.join_eq]
  show k ++ " " ++ (s ++ " " ++ a) = _
  simp only [str_assoc]
theorem join4 (k s a b : Str) : Txt.join " " [k, s, a, b] = k ++ (" " ++ (s ++ (" " ++ (a ++ (" " ++ b))))) := by
  rw [TL.join_eq]
  show k ++ " " ++ (s ++ " " ++ (a ++ " " ++ b)) = _
  simp only [str_assoc]
theorem join_scope (sc : Sc) (s : Str) : Txt.join " " (scopeR sc s) = lineS sc s := by
  unfold scopeR
  rw [join3]
  unfold lineS
  have e : ("scope " : Str) = ("scope" : Str) ++ (" " : Str) := by decide
  rw [str_nil, e]
  simp only [str_assoc]
theorem join_word (s : Str) : Txt.join " " (wordR s) = wordL s := by
  unfold wordR
  rw [join2]
  unfold wordL
  have e : ("word " : Str) = ("word" : Str) ++ (" " : Str) := by decide
  rw [str_nil, e]
  simp only [str_assoc]
theorem join_row {k : Str} {t : Tb} {s : Str} {p : Str × Str} (h : lk t s = some p) : Txt.join " " (rowE k t s) = entL k (s, p) := by
  unfold rowE
  rw [h]
  show Txt.join " " [k, s, p.1, p.2] = _
  rw [join4]
  unfold entL
  rw [str_nil]
  simp only [str_assoc]
theorem rows_tab (k : Str) : ∀ {u : Tb} {t : Tb}, (∀ e ∈ u, lk t e.1 = some e.2) → ((keysN u).map (rowE k t)).map (Txt.join " ") = u.map (entL k)
  | [], _, _ => rfl
  | e :: r, t, h => by
    have ih := rows_tab k (u := r) (t := t) fun x hx => h x (List.mem_cons_of_mem _ hx)
    show Txt.join " " (rowE k t e.1) :: ((keysN r).map (rowE k t)).map (Txt.join " ") = entL k e :: r.map (entL k)
    rw [ih, join_row (h e List.mem_cons_self)]
theorem rows_asc (k : Str) {t : Tb} (nd : (keysN t).Nodup) : ((sortT (keysN t)).map (rowE k t)).map (Txt.join " ") = (ascN t).map (entL k) := by
  rw [← keysN_ascN]
  refine rows_tab k fun e he => ?_
  rw [← lk_ascN nd]
  exact lk_of_mem (nodup_ascN nd) he
theorem rows_lines {P : Parts} (o : WF P) : (rowsS P).map (Txt.join " ") = allL (sortP P) := by
  unfold rowsS allL
  rw [List.map_append, List.map_append, List.map_append, List.map_append, rows_asc _ o.bnd, rows_asc _ o.usd, rows_asc _ o.oud]
  have e1 : ((ordS P.sc (sortT (keysN P.sc)) P.sc.length).map (scopeR P.sc)).map (Txt.join " ") = scL (sortP P).sc (keysN (sortP P).sc) := by
    unfold scL
    show _ = (ordS (ascN P.sc) (keysN (ascN P.sc)) (ascN P.sc).length).map (lineS (ascN P.sc))
    have hl : ∀ s, lk (ascN P.sc) s = lk P.sc s := fun s => lk_ascN o.sc.nd s
    rw [keysN_ascN, len_ascN, ordS_congr hl, List.map_map]
    refine List.map_congr_left fun s _ => ?_
    show Txt.join " " (scopeR P.sc s) = lineS (ascN P.sc) s
    rw [join_scope]
    unfold lineS parS
    rw [hl s]
  have e2 : ((sortT (nubT P.rs)).map wordR).map (Txt.join " ") = (sortP P).rs.map wordL := by
    rw [List.map_map]
    exact List.map_congr_left fun s _ => join_word s
  rw [e1, e2]
  rfl
theorem sum_strs {l : List Str} (h : ∀ s ∈ l, s.length ≤ 8) (hl : l.length ≤ 4) : (l.map (·.length)).sum + l.length * (" " : Str).length ≤ 16777216 := by
  have := sum_le h
  have e : (" " : Str).length = 1 := rfl
  rw [e]
  omega
/-! the large program of the laws -/
def nmI (c : Str) (k : Int) : Str := c ++ toString k
def lgSS : List Str := (List.range 30).map fun (k : Nat) => nmI "s" (10 + (k : Int))
def largeP : Parts := ⟨(List.range 30).map fun (k : Nat) => (nmI "s" (10 + (k : Int)), if k = 0 then none else some (nmI "s" (10 + ((k : Int) - 1)))),
  (List.range 40).map fun (k : Nat) => (nmI "b" (10 + (k : Int)), (nmI "s" (10 + (k : Int) % 30), nmI "w" ((k : Int) % 7))),
  (List.range 60).map fun (k : Nat) => (nmI "u" (10 + (k : Int)), (nmI "s" (10 + 29), nmI "b" (10 + (k : Int) % 40))),
  (List.range 6).map fun (k : Nat) => (nmI "o" (k : Int), (nmI "s" (10 + 3 * (k : Int)), nmI "v" (k : Int))), ["if", "w9"]⟩
/-- WF, asked by the machine -/
theorem wf_dec {P : Parts} (o : OrdSc P.sc) (hw : ∀ s ∈ keysN P.sc, wordS s = true) (h1 : (keysN P.bn).Nodup) (h2 : ∀ e ∈ P.bn, wordS e.1 = true ∧ wordS e.2.2 = true ∧ e.2.1 ∈ keysN P.sc) (h3 : (keysN P.us).Nodup)
    (h4 : ∀ e ∈ P.us, (wordS e.1 && (decide (e.2.1 ∈ keysN P.sc) && (match lk P.bn e.2.2 with | some b => decide (b.1 ∈ way P.sc e.2.1) | none => false))) = true) (h5 : (keysN P.ou).Nodup)
    (h6 : ∀ e ∈ P.ou, wordS e.1 = true ∧ wordS e.2.2 = true ∧ e.2.1 ∈ keysN P.sc) (h7 : ∀ s ∈ keysN P.ou, s ∉ keysN P.us) (h8 : ∀ s ∈ P.rs, wordS s = true) (h9 : P.sc.length ≤ 1000 ∧ P.bn.length ≤ 1000 ∧ P.us.length ≤ 1000 ∧ P.ou.length ≤ 1000 ∧ P.rs.length ≤ 1000) : WF P := by
  refine ⟨o.ok hw, h1, h2, h3, fun e he => ?_, h5, h6, h7, h8, h9⟩
  have := h4 e he
  rw [Bool.and_eq_true, Bool.and_eq_true] at this
  obtain ⟨a, b, c⟩ := this
  refine ⟨a, of_decide_eq_true b, ?_⟩
  split at c
  · rename_i x hx
    exact ⟨x, hx, of_decide_eq_true c⟩
  · cases c
theorem largeP_wf : WF largeP := wf_dec (ordB_ok (by decide +kernel)) (by decide +kernel) (by decide +kernel) (by decide +kernel) (by decide +kernel) (by decide +kernel) (by decide +kernel) (by decide +kernel) (by decide +kernel) (by decide +kernel) (by decide +kernel)
/-! tables in another order -/
theorem tabs_ext {α : Type} : ∀ {t u : Tab α}, (keysN t).Nodup → keysN t = keysN u → (∀ s, lk t s = lk u s) → t = u
  | [], [], _, _, _ => rfl
  | [], _ :: _, _, h, _ => by cases h
  | _ :: _, [], _, h, _ => by cases h
  | (a, x) :: r, (b, y) :: r', nd, h, hl => by
    have h : a :: keysN r = b :: keysN r' := h
    obtain ⟨e1, e2⟩ := List.cons.inj h
    subst e1
    have nd : (a :: keysN r).Nodup := nd
    have hn := List.nodup_cons.mp nd
    have e3 : x = y := by
      have := hl a
      rw [lk_cons, lk_cons, if_pos rfl, if_pos rfl] at this
      exact Option.some.inj this
    subst e3
    rw [tabs_ext hn.2 e2 fun s => ?_]
    by_cases hs : a = s
    · subst hs
      rw [lk_none hn.1, lk_none (e2 ▸ hn.1)]
    · have := hl s
      rw [lk_cons, lk_cons, if_neg hs, if_neg hs] at this
      exact this
theorem asc_eq {α : Type} {t u : Tab α} (nd : (keysN t).Nodup) (p : t.Perm u) : ascN t = ascN u := by
  have nu : (keysN u).Nodup := (perm_keys p).nodup_iff.mp nd
  refine tabs_ext (nodup_ascN nd) ?_ fun s => ?_
  · rw [keysN_ascN, keysN_ascN]
    exact sort_same nd nu fun s => (perm_keys p).mem_iff
  · rw [lk_ascN nd, lk_ascN nu]
    exact (lk_perm nd p s).symm
/-- the parts, each in another order -/
structure PermP (P P' : Parts) : Prop where
  sc : P.sc.Perm P'.sc
  bn : P.bn.Perm P'.bn
  us : P.us.Perm P'.us
  ou : P.ou.Perm P'.ou
  rs : P.rs.Perm P'.rs
theorem WF.perm {P P' : Parts} (o : WF P) (p : PermP P P') : WF P' := by
  obtain ⟨z1, z2, z3, z4, z5⟩ := o.sm
  have hsc : ∀ s, s ∈ keysN P.sc → s ∈ keysN P'.sc := fun s h => (perm_keys p.sc).mem_iff.mp h
  refine ⟨o.sc.perm p.sc, (perm_keys p.bn).nodup_iff.mp o.bnd, fun e he => ?_, (perm_keys p.us).nodup_iff.mp o.usd, fun e he => ?_, (perm_keys p.ou).nodup_iff.mp o.oud, fun e he => ?_, fun s hs hu => ?_, fun s hs => o.rwd s (p.rs.mem_iff.mpr hs), ?_⟩
  · obtain ⟨h1, h2, h3⟩ := o.bwd e (p.bn.mem_iff.mpr he)
    exact ⟨h1, h2, hsc _ h3⟩
  · obtain ⟨h1, h2, b, h3, h4⟩ := o.uwd e (p.us.mem_iff.mpr he)
    refine ⟨h1, hsc _ h2, b, by rw [lk_perm o.bnd p.bn]; exact h3, ?_⟩
    rw [way_perm o.sc.nd p.sc]
    exact h4
  · obtain ⟨h1, h2, h3⟩ := o.owd e (p.ou.mem_iff.mpr he)
    exact ⟨h1, h2, hsc _ h3⟩
  · exact o.dis s ((perm_keys p.ou).mem_iff.mpr hs) ((perm_keys p.us).mem_iff.mpr hu)
  · exact ⟨by rw [← p.sc.length_eq]; exact z1, by rw [← p.bn.length_eq]; exact z2, by rw [← p.us.length_eq]; exact z3, by rw [← p.ou.length_eq]; exact z4, by rw [← p.rs.length_eq]; exact z5⟩
theorem sortP_perm {P P' : Parts} (o : WF P) (p : PermP P P') : sortP P' = sortP P := by
  unfold sortP
  rw [asc_eq o.sc.nd p.sc, asc_eq o.bnd p.bn, asc_eq o.usd p.us, asc_eq o.oud p.ou]
  congr 1
  exact sort_nub fun s => p.rs.mem_iff.symm
def revP (P : Parts) : Parts := ⟨P.sc.reverse, P.bn.reverse, P.us.reverse, P.ou.reverse, P.rs.reverse⟩
theorem revP_perm (P : Parts) : PermP P (revP P) := ⟨(List.reverse_perm _).symm, (List.reverse_perm _).symm, (List.reverse_perm _).symm, (List.reverse_perm _).symm, (List.reverse_perm _).symm⟩
theorem mK_reverse {α : Type} (f : α → D) (t : Tab α) : (mK f t).reverse = mK f t.reverse := by
  unfold mK
  rw [List.map_reverse]

end DL
namespace Lk07
open PySem PySem.Spec PyProof.Rows L2 DL
def top (i : Nat) : Stmt := PySem.Challenge.pw_scopenames_k07_programs_formatted.main.body.getD i (.Pass ⟨0, 0, 0, 0⟩)
abbrev s_Program_parts : Stmt := (clsB (top 18)).getD 8 (.Pass ⟨0, 0, 0, 0⟩)
abbrev N_Program_parts : List Str := ["self"]
theorem sc_Program_parts : FnScope N_Program_parts ["self"] (defScope s_Program_parts) := ⟨rfl, rfl, rfl, by decide +kernel, rfl, by decide +kernel, by decide +kernel⟩
abbrev s_Program___eq__ : Stmt := (clsB (top 18)).getD 9 (.Pass ⟨0, 0, 0, 0⟩)
abbrev N_Program___eq__ : List Str := ["self", "other"]
theorem sc_Program___eq__ : FnScope N_Program___eq__ ["self", "other"] (defScope s_Program___eq__) := ⟨rfl, rfl, rfl, by decide +kernel, rfl, by decide +kernel, by decide +kernel⟩
abbrev s_ascending : Stmt := top 17
abbrev N_ascending : List Str := ["table", "key"]
theorem sc_ascending : FnScope N_ascending ["table"] (defScope s_ascending) := ⟨rfl, rfl, rfl, by decide +kernel, rfl, by decide +kernel, by decide +kernel⟩
abbrev s_is_word : Stmt := top 8
abbrev N_is_word : List Str := ["thing", "sign"]
theorem sc_is_word : FnScope N_is_word ["thing"] (defScope s_is_word) := ⟨rfl, rfl, rfl, by decide +kernel, rfl, by decide +kernel, by decide +kernel⟩
abbrev s_are_words : Stmt := top 15
abbrev N_are_words : List Str := ["thing", "word"]
theorem sc_are_words : FnScope N_are_words ["thing"] (defScope s_are_words) := ⟨rfl, rfl, rfl, by decide +kernel, rfl, by decide +kernel, by decide +kernel⟩
abbrev s_is_key : Stmt := top 10
abbrev N_is_key : List Str := ["table", "thing"]
theorem sc_is_key : FnScope N_is_key ["table", "thing"] (defScope s_is_key) := ⟨rfl, rfl, rfl, by decide +kernel, rfl, by decide +kernel, by decide +kernel⟩
abbrev s_is_pair : Stmt := top 9
abbrev N_is_pair : List Str := ["thing"]
theorem sc_is_pair : FnScope N_is_pair ["thing"] (defScope s_is_pair) := ⟨rfl, rfl, rfl, by decide +kernel, rfl, by decide +kernel, by decide +kernel⟩
abbrev s_are_bindings : Stmt := top 13
abbrev N_are_bindings : List Str := ["scopes", "thing", "name", "pair", "scope", "word"]
theorem sc_are_bindings : FnScope N_are_bindings ["scopes", "thing"] (defScope s_are_bindings) := ⟨rfl, rfl, rfl, by decide +kernel, rfl, by decide +kernel, by decide +kernel⟩
abbrev s_way_out : Stmt := top 11
abbrev N_way_out : List Str := ["scopes", "scope", "found"]
theorem sc_way_out : FnScope N_way_out ["scopes", "scope"] (defScope s_way_out) := ⟨rfl, rfl, rfl, by decide +kernel, rfl, by decide +kernel, by decide +kernel⟩
abbrev s_are_uses : Stmt := top 14
abbrev N_are_uses : List Str := ["scopes", "bindings", "thing", "name", "pair", "scope", "target"]
theorem sc_are_uses : FnScope N_are_uses ["scopes", "bindings", "thing"] (defScope s_are_uses) := ⟨rfl, rfl, rfl, by decide +kernel, rfl, by decide +kernel, by decide +kernel⟩
abbrev s_is_tree : Stmt := top 12
abbrev N_is_tree : List Str := ["thing", "roots", "scope", "parent"]
theorem sc_is_tree : FnScope N_is_tree ["thing"] (defScope s_is_tree) := ⟨rfl, rfl, rfl, by decide +kernel, rfl, by decide +kernel, by decide +kernel⟩
abbrev s_is_program : Stmt := top 16
abbrev N_is_program : List Str := ["scopes", "bindings", "uses", "outer", "reserved", "name"]
theorem sc_is_program : FnScope N_is_program ["scopes", "bindings", "uses", "outer", "reserved"] (defScope s_is_program) := ⟨rfl, rfl, rfl, by decide +kernel, rfl, by decide +kernel, by decide +kernel⟩
abbrev s_Program___init__ : Stmt := (clsB (top 18)).getD 0 (.Pass ⟨0, 0, 0, 0⟩)
abbrev N_Program___init__ : List Str := ["self", "scopes", "bindings", "uses", "outer", "reserved"]
theorem sc_Program___init__ : FnScope N_Program___init__ ["self", "scopes", "bindings", "uses", "outer", "reserved"] (defScope s_Program___init__) := ⟨rfl, rfl, rfl, by decide +kernel, rfl, by decide +kernel, by decide +kernel⟩
abbrev s__law_program : Stmt := top 37
abbrev N__law_program : List Str := ["_law_parts_here"]
theorem sc__law_program : FnScope N__law_program ["_law_parts_here"] (defScope s__law_program) := ⟨rfl, rfl, rfl, by decide +kernel, rfl, by decide +kernel, by decide +kernel⟩
abbrev s_scope_lines : Stmt := top 21
abbrev N_scope_lines : List Str := ["program", "found", "written", "left", "ready", "parent", "scope"]
theorem sc_scope_lines : FnScope N_scope_lines ["program"] (defScope s_scope_lines) := ⟨rfl, rfl, rfl, by decide +kernel, rfl, by decide +kernel, by decide +kernel⟩
abbrev s_format_program : Stmt := top 22
abbrev N_format_program : List Str := ["program", "lines", "kind", "table", "name", "pair", "word"]
theorem sc_format_program : FnScope N_format_program ["program"] (defScope s_format_program) := ⟨rfl, rfl, rfl, by decide +kernel, rfl, by decide +kernel, by decide +kernel⟩
abbrev s__law_turned : Stmt := top 38
abbrev N__law_turned : List Str := ["_law_some"]
theorem sc__law_turned : FnScope N__law_turned ["_law_some"] (defScope s__law_turned) := ⟨rfl, rfl, rfl, by decide +kernel, rfl, by decide +kernel, by decide +kernel⟩
abbrev s__law_scope_order : Stmt := top 33
abbrev N__law_scope_order : List Str := ["_law_tree_here", "_law_found", "_law_free", "_law_one"]
theorem sc__law_scope_order : FnScope N__law_scope_order ["_law_tree_here"] (defScope s__law_scope_order) := ⟨rfl, rfl, rfl, by decide +kernel, rfl, by decide +kernel, by decide +kernel⟩
abbrev s__law_lines : Stmt := top 34
abbrev N__law_lines : List Str := ["_law_parts_here", "_law_tree_here", "_law_binds_here", "_law_uses_here", "_law_outer_here", "_law_words", "_law_lines_here", "_law_one", "_law_line"]
theorem sc__law_lines : FnScope N__law_lines ["_law_parts_here"] (defScope s__law_lines) := ⟨rfl, rfl, rfl, by decide +kernel, rfl, by decide +kernel, by decide +kernel⟩
abbrev s__law_next : Stmt := top 25
abbrev N__law_next : List Str := ["_law_pen_here", "_law_nth", "_law_cell", "_law_one", "_law_two", "_law_three"]
theorem sc__law_next : FnScope N__law_next ["_law_pen_here"] (defScope s__law_next) := ⟨rfl, rfl, rfl, by decide +kernel, rfl, by decide +kernel, by decide +kernel⟩
abbrev s__law_draw : Stmt := top 26
abbrev N__law_draw : List Str := ["_law_pen_here", "_law_below", "_law_digit"]
theorem sc__law_draw : FnScope N__law_draw ["_law_pen_here", "_law_below"] (defScope s__law_draw) := ⟨rfl, rfl, rfl, by decide +kernel, rfl, by decide +kernel, by decide +kernel⟩
abbrev s__law_outer : Stmt := top 31
abbrev N__law_outer : List Str := ["_law_pen_here", "_law_tree_here", "_law_found", "_law_one", "_law_word"]
theorem sc__law_outer : FnScope N__law_outer ["_law_pen_here", "_law_tree_here"] (defScope s__law_outer) := ⟨rfl, rfl, rfl, by decide +kernel, rfl, by decide +kernel, by decide +kernel⟩
abbrev s__law_way : Stmt := top 28
abbrev N__law_way : List Str := ["_law_tree_here", "_law_scope", "_law_found"]
theorem sc__law_way : FnScope N__law_way ["_law_tree_here", "_law_scope"] (defScope s__law_way) := ⟨rfl, rfl, rfl, by decide +kernel, rfl, by decide +kernel, by decide +kernel⟩
abbrev s__law_uses : Stmt := top 30
abbrev N__law_uses : List Str := ["_law_pen_here", "_law_tree_here", "_law_binds_here", "_law_tally", "_law_found", "_law_turn", "_law_scope", "_law_some", "_law_one"]
theorem sc__law_uses : FnScope N__law_uses ["_law_pen_here", "_law_tree_here", "_law_binds_here", "_law_tally"] (defScope s__law_uses) := ⟨rfl, rfl, rfl, by decide +kernel, rfl, by decide +kernel, by decide +kernel⟩
abbrev s__law_binds : Stmt := top 29
abbrev N__law_binds : List Str := ["_law_pen_here", "_law_tree_here", "_law_tally", "_law_scopes", "_law_found", "_law_turn", "_law_one"]
theorem sc__law_binds : FnScope N__law_binds ["_law_pen_here", "_law_tree_here", "_law_tally"] (defScope s__law_binds) := ⟨rfl, rfl, rfl, by decide +kernel, rfl, by decide +kernel, by decide +kernel⟩
abbrev s__law_tree : Stmt := top 27
abbrev N__law_tree : List Str := ["_law_pen_here", "_law_tally", "_law_pool", "_law_names", "_law_tree_here", "_law_k", "_law_turn"]
theorem sc__law_tree : FnScope N__law_tree ["_law_pen_here", "_law_tally"] (defScope s__law_tree) := ⟨rfl, rfl, rfl, by decide +kernel, rfl, by decide +kernel, by decide +kernel⟩
abbrev s__law_parts : Stmt := top 32
abbrev N__law_parts : List Str := ["_law_pen_here", "_law_most", "_law_tree_here", "_law_binds_here", "_law_uses_here", "_law_some", "_law_words"]
theorem sc__law_parts : FnScope N__law_parts ["_law_pen_here", "_law_most"] (defScope s__law_parts) := ⟨rfl, rfl, rfl, by decide +kernel, rfl, by decide +kernel, by decide +kernel⟩
abbrev s__law_side_by_side : Stmt := top 36
abbrev N__law_side_by_side : List Str := ["_law_tree_here", "_law_k", "_law_binds_here"]
theorem sc__law_side_by_side : FnScope N__law_side_by_side [] (defScope s__law_side_by_side) := ⟨rfl, rfl, rfl, by decide +kernel, rfl, by decide +kernel, by decide +kernel⟩
abbrev s__law_large : Stmt := top 35
abbrev N__law_large : List Str := ["_law_scopes", "_law_tree_here", "_law_binds_here", "_law_uses_here", "_law_outer_here", "_law_k"]
theorem sc__law_large : FnScope N__law_large [] (defScope s__law_large) := ⟨rfl, rfl, rfl, by decide +kernel, rfl, by decide +kernel, by decide +kernel⟩
abbrev s__law_pen : Stmt := top 24
abbrev N__law_pen : List Str := ["_law_script"]
theorem sc__law_pen : FnScope N__law_pen ["_law_script"] (defScope s__law_pen) := ⟨rfl, rfl, rfl, by decide +kernel, rfl, by decide +kernel, by decide +kernel⟩
abbrev s_law : Stmt := top 39
abbrev N_law : List Str := ["_law_script", "_law_pen_here", "_law_rows", "_law_parts_here", "_law_due", "_law_turned_here", "_law_some", "_law_program_here", "_law_again", "_law_turn"]
theorem sc_law : FnScope N_law ["_law_script"] (defScope s_law) := ⟨rfl, rfl, rfl, by decide +kernel, rfl, by decide +kernel, by decide +kernel⟩
structure Tx (K : PySem.W.Frag) (mg : Str → Option Value) : Prop where
  f_Program_blocked : Fld K "Program" "blocked"
  f_Program_declared : Fld K "Program" "declared"
  f_Program_outside : Fld K "Program" "outside"
  f_Program_parents : Fld K "Program" "parents"
  f_Program_targets : Fld K "Program" "targets"
  i_Program : IsX K mg "Program"
  n_Program : NeX K "Program"
  b_all : mg "all" = none
  b_any : mg "any" = none
  b_dict : mg "dict" = none
  b_isinstance : mg "isinstance" = none
  b_len : mg "len" = none
  b_list : mg "list" = none
  b_range : mg "range" = none
  b_set : mg "set" = none
  b_sorted : mg "sorted" = none
  b_str : mg "str" = none
  b_tuple : mg "tuple" = none
  c_DIGITS : ∃ u, mg "DIGITS" = some (.str "0123456789" u)
  c_LETTERS : ∃ u, mg "LETTERS" = some (.str "abcdefghijklmnopqrstuvwxyz" u)
  c_MAX_WORD : ∃ u, mg "MAX_WORD" = some (.int 8 u)
  c_NO_PARENT : ∃ u, mg "NO_PARENT" = some (.str "-" u)
variable {P : Program} {w : World} {K : PySem.W.Frag} {mg : Str → Option Value} {base : Heap}
def sp_Program_parts : DSp := fun ds w Q => ∃ P, ds = [progD P] ∧ Q (partsD P) w
theorem ok_Program_parts (T : Tx K mg) (F : FnMe K "Program" "parts" "Program.parts" s_Program_parts ["self"])  : DMet P w K mg base 1 "Program" "parts" 1 sp_Program_parts := by
  obtain ⟨C, f, fd, kC, hC, hM, F, b⟩ := F.ex
  refine ⟨C, f, fd, _, kC, hC, hM, dfn F sc_Program_parts (by intro ds w Q h; first | exact h.elim | (unfold sp_Program_parts at h; first | (obtain ⟨rfl, _⟩ := h; rfl) | (obtain ⟨_, rfl, _⟩ := h; rfl) | (obtain ⟨_, _, rfl, _⟩ := h; rfl) | (obtain ⟨_, _, _, rfl, _⟩ := h; rfl) | (obtain ⟨_, _, _, _, rfl, _⟩ := h; rfl) | (obtain ⟨_, _, _, _, _, rfl, _⟩ := h; rfl) | (obtain ⟨_, _, _, _, _, _, rfl, _⟩ := h; rfl) | (obtain ⟨_, _, _, _, _, _, _, rfl, _⟩ := h; rfl) | (obtain ⟨_, _, _, _, _, _, _, _, rfl, _⟩ := h; rfl) | (split at h <;> first | rfl | exact h.elim))) ?_, b, rfl⟩
  intro cdv A outer s H E hr hgd
  have hu := hu_of hr
  have nd := sc_Program_parts.nd
  refine ⟨_, (dss_one (ds_ret (de_tup (da_cons (de_fld T.f_Program_parents (dv 0)) (da_cons (de_fld T.f_Program_declared (dv 0)) (da_cons (de_fld T.f_Program_targets (dv 0)) (da_cons (de_fld T.f_Program_outside (dv 0)) (da_cons (de_fld T.f_Program_blocked (dv 0)) da_nil)))))))), ?_⟩
  intro ds w Q h
  obtain ⟨P, rfl, hq⟩ := h
  exact ⟨rfl, _, rfl, rfl, _, rfl, rfl, _, rfl, rfl, _, rfl, rfl, _, rfl, sz_nat 5, hq⟩
  
def sp_Program___eq__ : DSp := fun ds w Q => ∃ P P', ds = [progD P, progD P'] ∧ WF P ∧ WF P' ∧ Ord P ∧ Ord P' ∧ Q (.bl (decide (P = P'))) w
theorem ok_Program___eq__ (T : Tx K mg) (F : FnMe K "Program" "__eq__" "Program.__eq__" s_Program___eq__ ["self", "other"]) (C_Program_parts : DMet P w K mg base 1 "Program" "parts" 1 sp_Program_parts) : DMet P w K mg base 2 "Program" "__eq__" 2 sp_Program___eq__ := by
  obtain ⟨C, f, fd, kC, hC, hM, F, b⟩ := F.ex
  refine ⟨C, f, fd, _, kC, hC, hM, dfn F sc_Program___eq__ (by intro ds w Q h; first | exact h.elim | (unfold sp_Program___eq__ at h; first | (obtain ⟨rfl, _⟩ := h; rfl) | (obtain ⟨_, rfl, _⟩ := h; rfl) | (obtain ⟨_, _, rfl, _⟩ := h; rfl) | (obtain ⟨_, _, _, rfl, _⟩ := h; rfl) | (obtain ⟨_, _, _, _, rfl, _⟩ := h; rfl) | (obtain ⟨_, _, _, _, _, rfl, _⟩ := h; rfl) | (obtain ⟨_, _, _, _, _, _, rfl, _⟩ := h; rfl) | (obtain ⟨_, _, _, _, _, _, _, rfl, _⟩ := h; rfl) | (obtain ⟨_, _, _, _, _, _, _, _, rfl, _⟩ := h; rfl) | (split at h <;> first | rfl | exact h.elim))) ?_, b, rfl⟩
  intro cdv A outer s H E hr hgd
  have hu := hu_of hr
  have nd := sc_Program___eq__.nd
  refine ⟨_, (dss_one (ds_ret (de_and (de_isiC T.i_Program T.b_isinstance (dv 1)) (de_one (de_cmp (od_eqW (u150 hr)) (de_meth0 (DMet.mono C_Program_parts (by decide)) hr hgd (takes_of rfl rfl rfl rfl) (dv 0)) (de_meth0 (DMet.mono C_Program_parts (by decide)) hr hgd (takes_of rfl rfl rfl rfl) (dv 1))))))), ?_⟩
  intro ds w Q h
  obtain ⟨P, P', rfl, o, o', s, s', hq⟩ := h
  refine ⟨rfl, rfl, rfl, P, rfl, rfl, rfl, P', rfl, trivial, 3, _, by decide, parts_eqW o o' s s', hq⟩
  
def sp_ascending : DSp := fun ds w Q => match ds with
  | [.dic kvs] => strKeys kvs ∧ kvs.length ≤ sizeLine ∧ Q (.dic (ascD kvs)) w
  | _ => False
theorem ok_ascending (T : Tx K mg) (F : FnAt K mg "ascending" s_ascending ["table"])  : DCal P w K mg base 1 "ascending" 1 sp_ascending := by
  obtain ⟨f, fd, F, hm, b⟩ := F.ex
  refine ⟨f, fd, _, dfn F sc_ascending (by intro ds w Q h; first | exact h.elim | (unfold sp_ascending at h; first | (obtain ⟨rfl, _⟩ := h; rfl) | (obtain ⟨_, rfl, _⟩ := h; rfl) | (obtain ⟨_, _, rfl, _⟩ := h; rfl) | (obtain ⟨_, _, _, rfl, _⟩ := h; rfl) | (obtain ⟨_, _, _, _, rfl, _⟩ := h; rfl) | (obtain ⟨_, _, _, _, _, rfl, _⟩ := h; rfl) | (obtain ⟨_, _, _, _, _, _, rfl, _⟩ := h; rfl) | (obtain ⟨_, _, _, _, _, _, _, rfl, _⟩ := h; rfl) | (obtain ⟨_, _, _, _, _, _, _, _, rfl, _⟩ := h; rfl) | (split at h <;> first | rfl | exact h.elim))) ?_, hm, F.kp, b, rfl⟩
  intro cdv A outer s H E hr hgd
  have hu := hu_of hr
  have nd := sc_ascending.nd
  refine ⟨_, (dss_one (ds_ret (de_dcG (own := [("key", 1)]) finD_ok rfl nd (di_any (de_callB (cd_sorted rfl hr.units) T.b_sorted (da_cons (dv 0) da_nil))) (by kernel_rfl) (fun _ _ _ _ _ => (dg_name 1 nd)) (fun _ _ _ _ _ => dts_nil) (fun _ _ _ _ _ => (dv 1)) (fun _ _ _ _ _ => (de_sub hu (dv 0) (dv 1)))))), ?_⟩
  intro ds w Q h
  unfold sp_ascending at h
  split at h
  · rename_i kvs
    obtain ⟨⟨ss, hk, hn⟩, hz, hq⟩ := h
    have hl : ss.length = kvs.length := by simpa using (congrArg List.length hk).symm
    refine ⟨ss, hk, ?_⟩
    refine dc_map (fun x => match x with | .str s => Sum.inr s | _ => Sum.inl 0) (fun x => match x with | .str s => (valD kvs (.inr s)).getD .non | _ => .non) (by rw [List.length_map, sortT_len, hl]; exact hz) ?_ (fun y hy R hR => ?_) ?_
    · rw [List.map_map]
      have e : ((fun x : D => match x with | .str s => (Sum.inr s : Key) | _ => Sum.inl 0) ∘ D.str) = Sum.inr := rfl
      rw [e]
      exact List.Pairwise.map _ (fun a b hne he => hne (Sum.inr.inj he)) ((sortT_perm ss).nodup_iff.mpr hn)
    · obtain ⟨s, hs, rfl⟩ := List.mem_map.mp hy
      have hm : Sum.inr s ∈ kvs.map (·.1) := by
        rw [hk]; exact List.mem_map.mpr ⟨s, (sortT_perm ss).mem_iff.mp hs, rfl⟩
      obtain ⟨kv, hkv, ekv⟩ := List.mem_map.mp hm
      obtain ⟨k, v⟩ := kv
      obtain rfl : k = Sum.inr s := ekv
      obtain ⟨d, hd⟩ := valD_mem hkv
      refine ⟨.inr s, d, rfl, hd, .inr s, rfl, ?_⟩
      have hR : R (.inr s) ((valD kvs (.inr s)).getD .non) w.mute := hR
      rw [hd] at hR
      exact hR
    · have e : ascD kvs = ((sortT ss).map D.str).map fun x => ((match x with | .str s => Sum.inr s | _ => Sum.inl 0 : Key), (match x with | .str s => (valD kvs (.inr s)).getD .non | _ => .non : D)) := by
        unfold ascD
        rw [strKeys_eq hk, List.map_map]
        rfl
      rw [e] at hq
      exact hq
  · exact h.elim
  
def sp_is_word : DSp := fun ds w Q => match ds with
  | [d] => plainD d = true ∧ Q (.bl (isWord d)) w
  | _ => False
theorem ok_is_word (T : Tx K mg) (F : FnAt K mg "is_word" s_is_word ["thing"])  : DCal P w K mg base 1 "is_word" 1 sp_is_word := by
  obtain ⟨f, fd, F, hm, b⟩ := F.ex
  obtain ⟨u_DIGITS, c_DIGITS⟩ := T.c_DIGITS
  obtain ⟨u_LETTERS, c_LETTERS⟩ := T.c_LETTERS
  obtain ⟨u_MAX_WORD, c_MAX_WORD⟩ := T.c_MAX_WORD
  refine ⟨f, fd, _, dfn F sc_is_word (by intro ds w Q h; first | exact h.elim | (unfold sp_is_word at h; first | (obtain ⟨rfl, _⟩ := h; rfl) | (obtain ⟨_, rfl, _⟩ := h; rfl) | (obtain ⟨_, _, rfl, _⟩ := h; rfl) | (obtain ⟨_, _, _, rfl, _⟩ := h; rfl) | (obtain ⟨_, _, _, _, rfl, _⟩ := h; rfl) | (obtain ⟨_, _, _, _, _, rfl, _⟩ := h; rfl) | (obtain ⟨_, _, _, _, _, _, rfl, _⟩ := h; rfl) | (obtain ⟨_, _, _, _, _, _, _, rfl, _⟩ := h; rfl) | (obtain ⟨_, _, _, _, _, _, _, _, rfl, _⟩ := h; rfl) | (split at h <;> first | rfl | exact h.elim))) ?_, hm, F.kp, b, rfl⟩
  intro cdv A outer s H E hr hgd
  have hu := hu_of hr
  have nd := sc_is_word.nd
  refine ⟨_, (dss_cons (ds_if (dt_w (dw_or (dt_not (dt_val (de_callB cd_isi T.b_isinstance (da_cons (dv 0) (da_cons (de_ty (n := "str") T.b_str) da_nil))))) (dw_or (dt_not (dt_chain od_le od_le de_int (de_callB cd_len T.b_len (da_cons (dv 0) da_nil)) (de_gint c_MAX_WORD))) (dw_or1 (dt_cmp (od_notin hu) (de_sub hu (dv 0) de_int) (de_gstr c_LETTERS)))))) (dss_one (ds_ret de_bl)) dss_nil)
      (dss_one (ds_ret (de_callB (cd_all rfl) T.b_all (da_cons (de_lcG (own := [("sign", 1)]) finL_ok rfl nd (di_str (dv 0)) (by kernel_rfl) (fun _ _ _ _ _ => (dg_name 1 nd)) (fun _ _ _ _ _ => dts_nil) (fun _ _ _ _ _ => (de_cmp (od_in hu) (dv 1) (de_op od_add (de_gstr c_LETTERS) (de_gstr c_DIGITS))))) da_nil))))), ?_⟩
  intro ds w Q h
  match ds, h with
  | [d], h =>
    obtain ⟨h1, h2⟩ := h
    cases d with
    | str x =>
      have h1 : x.length ≤ sizeLine := of_decide_eq_true h1
      refine ⟨_, true, rfl, by decide +kernel, ?_⟩
      refine ⟨h1, ?_⟩
      have fin : wordS x = false → Q (.bl false) w := fun e => by
        have h2 : Q (.bl (wordS x)) w := h2
        rw [e] at h2; exact h2
      refine ifd (fun c1 => ?_) (fun c1 => ?_)
      · refine nif (fun c2 => ?_) (fun c2 => ?_)
        · obtain ⟨c0, r, e⟩ : ∃ c r, x.cps.toList = c :: r := by
            cases e : x.cps.toList with
            | nil =>
              have : x.cps.toList.length = x.length := by simp [Str.length]
              rw [e] at this
              simp at this
              omega
            | cons c r => exact ⟨c, r, rfl⟩
          refine ⟨h1, c0, by rw [e]; exact atI0 _ _, ?_⟩
          refine ifx (fun c3 => ?_) (fun c3 => ?_)
          · refine lc_map (fun d => .bl (match d with | .str y => inS y alnum | _ => false)) (by unfold DL.signs; rw [List.length_map]; exact h1) (fun y hy R hR => ?_) (all_bl _ ?_)
            · obtain ⟨c, hc, rfl⟩ := List.mem_map.mp hy
              refine ⟨by decide, ?_⟩
              have hR : R (.bl (inS ⟨#[c]⟩ alnum)) w.mute := hR
              rw [← ealn] at hR
              unfold DL.inR
              show R (.bl (false ^^ inS ⟨#[c]⟩ (letters ++ digits))) w.mute
              rw [Bool.false_xor]
              exact hR
            · have h2 : Q (.bl (wordS x)) w := h2
              rw [inS_one] at c3
              have c3 : decide (c0 ∈ letters.cps.toList) = true := c3
              have e2 : wordS x = ((DL.signs x).map fun d => (match d with | .str y => inS y alnum | _ => false)).all id := by
                unfold wordS DL.signs
                rw [decide_eq_true (show 1 ≤ x.length by omega), decide_eq_true (show x.length ≤ 8 by omega), e]
                simp only [List.head?]
                rw [c3]
                simp only [Bool.true_and, List.map_map, List.all_map]
                congr 1
                funext c
                simp only [Function.comp, id]
                rw [inS_one]
              rw [e2] at h2
              exact h2
          · exact fin (by
              rw [inS_one] at c3
              have c3 : decide (c0 ∈ letters.cps.toList) = false := c3
              unfold wordS; rw [e]; simp only [List.head?]; rw [c3]; simp)
        · exact fin (by unfold wordS; rw [decide_eq_false (show ¬ x.length ≤ 8 by omega)]; simp)
      · exact fin (by unfold wordS; rw [decide_eq_false (by omega)]; rfl)
    | non => exact ⟨_, false, rfl, by decide +kernel, h2⟩
    | bl b => exact ⟨_, false, rfl, by decide +kernel, h2⟩
    | int i => exact ⟨_, false, rfl, by decide +kernel, h2⟩
    | lst xs => exact ⟨_, false, rfl, by decide +kernel, h2⟩
    | tup xs => exact ⟨_, false, rfl, by decide +kernel, h2⟩
    | dic xs => exact ⟨_, false, rfl, by decide +kernel, h2⟩
    | _ => cases h1
  
def sp_are_words : DSp := fun ds w Q => match ds with
  | [d] => pl d = true ∧ (∀ xs, d = .lst xs ∨ d = .tup xs → xs.length ≤ sizeLine) ∧ Q (.bl (isWords d)) w
  | _ => False
theorem ok_are_words (T : Tx K mg) (F : FnAt K mg "are_words" s_are_words ["thing"]) (C_is_word : DCal P w K mg base 1 "is_word" 1 sp_is_word) : DCal P w K mg base 2 "are_words" 1 sp_are_words := by
  obtain ⟨f, fd, F, hm, b⟩ := F.ex
  refine ⟨f, fd, _, dfn F sc_are_words (by intro ds w Q h; first | exact h.elim | (unfold sp_are_words at h; first | (obtain ⟨rfl, _⟩ := h; rfl) | (obtain ⟨_, rfl, _⟩ := h; rfl) | (obtain ⟨_, _, rfl, _⟩ := h; rfl) | (obtain ⟨_, _, _, rfl, _⟩ := h; rfl) | (obtain ⟨_, _, _, _, rfl, _⟩ := h; rfl) | (obtain ⟨_, _, _, _, _, rfl, _⟩ := h; rfl) | (obtain ⟨_, _, _, _, _, _, rfl, _⟩ := h; rfl) | (obtain ⟨_, _, _, _, _, _, _, rfl, _⟩ := h; rfl) | (obtain ⟨_, _, _, _, _, _, _, _, rfl, _⟩ := h; rfl) | (split at h <;> first | rfl | exact h.elim))) ?_, hm, F.kp, b, rfl⟩
  intro cdv A outer s H E hr hgd
  have hu := hu_of hr
  have nd := sc_are_words.nd
  refine ⟨_, (dss_one (ds_ret (de_and (de_isiT T.b_isinstance (dv 0) (da_cons (de_ty (n := "tuple") T.b_tuple) (da_cons (de_ty (n := "list") T.b_list) da_nil))) (de_one (de_callB (cd_all rfl) T.b_all (da_cons (de_lcG (own := [("word", 1)]) finL_ok rfl nd (di_any (dv 0)) (by kernel_rfl) (fun _ _ _ _ _ => (dg_name 1 nd)) (fun _ _ _ _ _ => dts_nil) (fun _ _ _ _ _ => (de_call (DCal.mono C_is_word (by decide)) hr hgd takes0 (da_cons (dv 1) da_nil)))) da_nil)))))), ?_⟩
  intro ds w Q h
  match ds, h with
  | [d], h =>
    obtain ⟨h1, hz, h2⟩ := h
    cases d with
    | lst xs =>
      have hk : plL xs = true := by unfold pl at h1; exact h1
      refine ⟨sz_nat 2, _, _, true, rfl, rfl, by decide +kernel, ?_⟩
      refine lc_map (fun x => .bl (isWord x)) (hz xs (.inl rfl)) (fun y hy R hR => ⟨pl_plain (plL_mem hk hy), hR⟩) (all_bl _ ?_)
      rw [all_id]
      exact h2
    | tup xs =>
      have hk : plL xs = true := by unfold pl at h1; exact h1
      refine ⟨sz_nat 2, _, _, true, rfl, rfl, by decide +kernel, ?_⟩
      refine lc_map (fun x => .bl (isWord x)) (hz xs (.inr rfl)) (fun y hy R hR => ⟨pl_plain (plL_mem hk hy), hR⟩) (all_bl _ ?_)
      rw [all_id]
      exact h2
    | non => exact ⟨sz_nat 2, _, _, false, rfl, rfl, by decide +kernel, h2⟩
    | bl b => exact ⟨sz_nat 2, _, _, false, rfl, rfl, by decide +kernel, h2⟩
    | int i => exact ⟨sz_nat 2, _, _, false, rfl, rfl, by decide +kernel, h2⟩
    | str xs => exact ⟨sz_nat 2, _, _, false, rfl, rfl, by decide +kernel, h2⟩
    | dic xs => exact ⟨sz_nat 2, _, _, false, rfl, rfl, by decide +kernel, h2⟩
    | _ => cases h1
  
def sp_is_key : DSp := fun ds w Q => match ds with
  | [.dic kvs, d] => pl d = true ∧ Q (.bl (isKey kvs d)) w
  | _ => False
theorem ok_is_key (T : Tx K mg) (F : FnAt K mg "is_key" s_is_key ["table", "thing"])  : DCal P w K mg base 1 "is_key" 2 sp_is_key := by
  obtain ⟨f, fd, F, hm, b⟩ := F.ex
  refine ⟨f, fd, _, dfn F sc_is_key (by intro ds w Q h; first | exact h.elim | (unfold sp_is_key at h; first | (obtain ⟨rfl, _⟩ := h; rfl) | (obtain ⟨_, rfl, _⟩ := h; rfl) | (obtain ⟨_, _, rfl, _⟩ := h; rfl) | (obtain ⟨_, _, _, rfl, _⟩ := h; rfl) | (obtain ⟨_, _, _, _, rfl, _⟩ := h; rfl) | (obtain ⟨_, _, _, _, _, rfl, _⟩ := h; rfl) | (obtain ⟨_, _, _, _, _, _, rfl, _⟩ := h; rfl) | (obtain ⟨_, _, _, _, _, _, _, rfl, _⟩ := h; rfl) | (obtain ⟨_, _, _, _, _, _, _, _, rfl, _⟩ := h; rfl) | (split at h <;> first | rfl | exact h.elim))) ?_, hm, F.kp, b, rfl⟩
  intro cdv A outer s H E hr hgd
  have hu := hu_of hr
  have nd := sc_is_key.nd
  refine ⟨_, (dss_one (ds_ret (de_and (de_callB cd_isi T.b_isinstance (da_cons (dv 1) (da_cons (de_ty (n := "str") T.b_str) da_nil))) (de_one (de_cmp (od_in hu) (dv 1) (dv 0)))))), ?_⟩
  intro ds w Q h
  unfold sp_is_key at h
  split at h
  · rename_i kvs d
    obtain ⟨h1, h2⟩ := h
    cases d with
    | str x =>
      refine ⟨_, true, rfl, by decide +kernel, _, rfl, ?_⟩
      show Q (.bl (false ^^ (valD kvs (.inr x)).isSome)) w
      rw [Bool.false_xor]
      exact h2
    | tup xs => exact ⟨_, false, rfl, by decide +kernel, h2⟩
    | non => exact ⟨_, false, rfl, by decide +kernel, h2⟩
    | bl b => exact ⟨_, false, rfl, by decide +kernel, h2⟩
    | int i => exact ⟨_, false, rfl, by decide +kernel, h2⟩
    | lst xs => exact ⟨_, false, rfl, by decide +kernel, h2⟩
    | dic xs => exact ⟨_, false, rfl, by decide +kernel, h2⟩
    | _ => cases h1
  · exact h.elim
  
def sp_is_pair : DSp := fun ds w Q => match ds with
  | [d] => pl d = true ∧ Q (.bl (isPair d)) w
  | _ => False
theorem ok_is_pair (T : Tx K mg) (F : FnAt K mg "is_pair" s_is_pair ["thing"])  : DCal P w K mg base 1 "is_pair" 1 sp_is_pair := by
  obtain ⟨f, fd, F, hm, b⟩ := F.ex
  refine ⟨f, fd, _, dfn F sc_is_pair (by intro ds w Q h; first | exact h.elim | (unfold sp_is_pair at h; first | (obtain ⟨rfl, _⟩ := h; rfl) | (obtain ⟨_, rfl, _⟩ := h; rfl) | (obtain ⟨_, _, rfl, _⟩ := h; rfl) | (obtain ⟨_, _, _, rfl, _⟩ := h; rfl) | (obtain ⟨_, _, _, _, rfl, _⟩ := h; rfl) | (obtain ⟨_, _, _, _, _, rfl, _⟩ := h; rfl) | (obtain ⟨_, _, _, _, _, _, rfl, _⟩ := h; rfl) | (obtain ⟨_, _, _, _, _, _, _, rfl, _⟩ := h; rfl) | (obtain ⟨_, _, _, _, _, _, _, _, rfl, _⟩ := h; rfl) | (split at h <;> first | rfl | exact h.elim))) ?_, hm, F.kp, b, rfl⟩
  intro cdv A outer s H E hr hgd
  have hu := hu_of hr
  have nd := sc_is_pair.nd
  refine ⟨_, (dss_one (ds_ret (de_and (de_callB cd_isi T.b_isinstance (da_cons (dv 0) (da_cons (de_ty (n := "tuple") T.b_tuple) da_nil))) (de_one (de_cmp (od_eq hr.units) (de_callB cd_len T.b_len (da_cons (dv 0) da_nil)) de_int))))), ?_⟩
  intro ds w Q h
  match ds, h with
  | [d], h =>
    obtain ⟨h1, h2⟩ := h
    cases d with
    | tup xs =>
      refine ⟨_, true, rfl, by decide +kernel, ?_⟩
      show Q (.bl (false ^^ decide ((xs.length : Int) = 2))) w
      rw [Bool.false_xor]
      exact h2
    | non => exact ⟨_, false, rfl, by decide +kernel, h2⟩
    | bl b => exact ⟨_, false, rfl, by decide +kernel, h2⟩
    | int i => exact ⟨_, false, rfl, by decide +kernel, h2⟩
    | lst xs => exact ⟨_, false, rfl, by decide +kernel, h2⟩
    | str xs => exact ⟨_, false, rfl, by decide +kernel, h2⟩
    | dic xs => exact ⟨_, false, rfl, by decide +kernel, h2⟩
    | _ => cases h1
  
def sp_are_bindings : DSp := fun ds w Q => match ds with
  | [.dic scopes, d] => pl d = true ∧ (∀ kvs, d = .dic kvs → kvs.length ≤ sizeLine) ∧ Q (.bl (areBnds scopes d)) w
  | _ => False
theorem ok_are_bindings (T : Tx K mg) (F : FnAt K mg "are_bindings" s_are_bindings ["scopes", "thing"]) (C_is_word : DCal P w K mg base 1 "is_word" 1 sp_is_word) (C_is_key : DCal P w K mg base 1 "is_key" 2 sp_is_key) (C_is_pair : DCal P w K mg base 1 "is_pair" 1 sp_is_pair) : DCal P w K mg base 2 "are_bindings" 2 sp_are_bindings := by
  obtain ⟨f, fd, F, hm, b⟩ := F.ex
  refine ⟨f, fd, _, dfn F sc_are_bindings (by intro ds w Q h; first | exact h.elim | (unfold sp_are_bindings at h; first | (obtain ⟨rfl, _⟩ := h; rfl) | (obtain ⟨_, rfl, _⟩ := h; rfl) | (obtain ⟨_, _, rfl, _⟩ := h; rfl) | (obtain ⟨_, _, _, rfl, _⟩ := h; rfl) | (obtain ⟨_, _, _, _, rfl, _⟩ := h; rfl) | (obtain ⟨_, _, _, _, _, rfl, _⟩ := h; rfl) | (obtain ⟨_, _, _, _, _, _, rfl, _⟩ := h; rfl) | (obtain ⟨_, _, _, _, _, _, _, rfl, _⟩ := h; rfl) | (obtain ⟨_, _, _, _, _, _, _, _, rfl, _⟩ := h; rfl) | (split at h <;> first | rfl | exact h.elim))) ?_, hm, F.kp, b, rfl⟩
  intro cdv A outer s H E hr hgd
  have hu := hu_of hr
  have nd := sc_are_bindings.nd
  refine ⟨_, (dss_cons (ds_if (dt_w (dw_or (dt_not (dt_val (de_callB cd_isi T.b_isinstance (da_cons (dv 1) (da_cons (de_ty (n := "dict") T.b_dict) da_nil))))) (dw_or1 (dt_not (dt_val (de_callB (cd_all rfl) T.b_all (da_cons (de_lcG (own := [("name", 2), ("pair", 3)]) finL_ok rfl nd (di_items (dv 1)) (by kernel_rfl) (fun _ _ _ _ _ => (dg_tup (n := 2) rfl (dgs_cons (dg_name 2 nd) (dgs_cons (dg_name 3 nd) dgs_nil)))) (fun _ _ _ _ _ => dts_nil) (fun _ _ _ _ _ => (de_and (de_call (DCal.mono C_is_word (by decide)) hr hgd takes0 (da_cons (dv 2) da_nil)) (de_one (de_call (DCal.mono C_is_pair (by decide)) hr hgd takes0 (da_cons (dv 3) da_nil)))))) da_nil))))))) (dss_one (ds_ret de_bl)) dss_nil)
      (dss_one (ds_ret (de_callB (cd_all rfl) T.b_all (da_cons (de_lcG (own := [("scope", 4), ("word", 5)]) finL_ok rfl nd (di_values (dv 1)) (by kernel_rfl) (fun _ _ _ _ _ => (dg_tup (n := 2) rfl (dgs_cons (dg_name 4 nd) (dgs_cons (dg_name 5 nd) dgs_nil)))) (fun _ _ _ _ _ => dts_nil) (fun _ _ _ _ _ => (de_and (de_call (DCal.mono C_is_key (by decide)) hr hgd takes0 (da_cons (dv 0) (da_cons (dv 4) da_nil))) (de_one (de_call (DCal.mono C_is_word (by decide)) hr hgd takes0 (da_cons (dv 5) da_nil)))))) da_nil))))), ?_⟩
  intro ds w Q h
  unfold sp_are_bindings at h
  split at h
  · rename_i scopes d
    obtain ⟨h1, hz, h2⟩ := h
    cases d with
    | dic kvs =>
      have hz := hz kvs rfl
      have hk : plK kvs = true := by unfold pl at h1; exact h1
      have zi : (ditems kvs).length ≤ sizeLine := by unfold ditems; rw [List.length_map]; omega
      have zv : (dvals kvs).length ≤ sizeLine := by unfold dvals; rw [List.length_map]; omega
      have fin : areBnds scopes (.dic kvs) = false → Q (.bl false) w := fun e => by rw [e] at h2; exact h2
      refine ⟨_, true, rfl, by decide +kernel, ?_⟩
      refine lc_map (fun p => .bl (match p with | .tup [k, v] => isWord k && isPair v | _ => false)) zi (fun y hy R hR => ?_) (all_bl _ ?_)
      · obtain ⟨k, v, hm, rfl⟩ := mem_ditems hy
        have q := plK_key hk hm
        refine ⟨rfl, rfl, pl_plain q.1, ?_⟩
        have hR : R (.bl (isWord (kD k) && isPair v)) w.mute := hR
        refine ifb (fun e => ?_) (fun e => ?_)
        · rw [e, Bool.true_and] at hR
          exact ⟨q.2, hR⟩
        · rw [e, Bool.false_and] at hR
          exact hR
      rw [all_id]
      refine ifn (fun c1 => ?_) (fun c1 => fin (by rw [areBnds_dic, show namesPairs kvs = false from c1]; rfl))
      refine lc_map (fun d => .bl (isBnd scopes d)) zv (fun y hy R hR => ?_) (all_bl _ ?_)
      · obtain ⟨k, hm⟩ := mem_dvals hy
        have q := List.all_eq_true.mp c1 _ (List.mem_map.mpr ⟨_, hm, rfl⟩)
        have q : (isWord (kD k) && isPair y) = true := q
        rw [Bool.and_eq_true] at q
        obtain ⟨a, b, rfl⟩ := isPair_tup q.2
        have pp := pl_pair (plK_key hk hm).2
        refine ⟨rfl, rfl, pp.1, ?_⟩
        have hR : R (.bl (isKey scopes a && isWord b)) w.mute := hR
        refine ifb (fun e => ?_) (fun e => ?_)
        · rw [e, Bool.true_and] at hR
          exact ⟨pl_plain pp.2, hR⟩
        · rw [e, Bool.false_and] at hR
          exact hR
      rw [all_id]
      rw [areBnds_dic, show namesPairs kvs = true from c1, Bool.true_and] at h2
      exact h2
    | non => exact ⟨_, false, rfl, by decide +kernel, h2⟩
    | bl b => exact ⟨_, false, rfl, by decide +kernel, h2⟩
    | int i => exact ⟨_, false, rfl, by decide +kernel, h2⟩
    | lst xs => exact ⟨_, false, rfl, by decide +kernel, h2⟩
    | str xs => exact ⟨_, false, rfl, by decide +kernel, h2⟩
    | tup xs => exact ⟨_, false, rfl, by decide +kernel, h2⟩
    | _ => cases h1
  · exact h.elim
  
def sp_way_out : DSp := fun ds w Q => match ds with
  | [.dic kvs, .str x] => Closed kvs ∧ (valD kvs (.inr x)).isSome = true ∧ kvs.length < sizeLine ∧ Q (.lst ((wayOut kvs x).map .str)) w
  | _ => False
theorem ok_way_out (T : Tx K mg) (F : FnAt K mg "way_out" s_way_out ["scopes", "scope"])  : DCal P w K mg base 1 "way_out" 2 sp_way_out := by
  obtain ⟨f, fd, F, hm, b⟩ := F.ex
  refine ⟨f, fd, _, dfn F sc_way_out (by intro ds w Q h; first | exact h.elim | (unfold sp_way_out at h; first | (obtain ⟨rfl, _⟩ := h; rfl) | (obtain ⟨_, rfl, _⟩ := h; rfl) | (obtain ⟨_, _, rfl, _⟩ := h; rfl) | (obtain ⟨_, _, _, rfl, _⟩ := h; rfl) | (obtain ⟨_, _, _, _, rfl, _⟩ := h; rfl) | (obtain ⟨_, _, _, _, _, rfl, _⟩ := h; rfl) | (obtain ⟨_, _, _, _, _, _, rfl, _⟩ := h; rfl) | (obtain ⟨_, _, _, _, _, _, _, rfl, _⟩ := h; rfl) | (obtain ⟨_, _, _, _, _, _, _, _, rfl, _⟩ := h; rfl) | (split at h <;> first | rfl | exact h.elim))) ?_, hm, F.kp, b, rfl⟩
  intro cdv A outer s H E hr hgd
  have hu := hu_of hr
  have nd := sc_way_out.nd
  refine ⟨_, (dss_cons (ds_set (i := 2) nd (de_lstM (da_cons (dv 1) da_nil)))
      (dss_cons (ds_while (passes_of rfl) (dt_w (dw_and (dt_cmp od_le (de_callB cd_len T.b_len (da_cons (dv 2) da_nil)) (de_callB cd_len T.b_len (da_cons (dv 0) da_nil))) (dw_and1 (dt_cmp od_isnot (de_sub hu (dv 0) (de_sub hu (dv 2) (de_neg de_int))) de_non)))) (dss_one (ds_expr (de_bm PySem.F.slot_list_append PySem.F.type_list_append md_append (dv 2) (da_cons (de_sub hu (dv 0) (de_sub hu (dv 2) (de_neg de_int))) da_nil)))))
      (dss_one (ds_ret (de_frz (dv 2)))))), ?_⟩
  intro ds w Q h
  unfold sp_way_out at h
  split at h
  · rename_i kvs x
    obtain ⟨hc, hx, hz, hq⟩ := h
    refine ⟨sz_nat 1, fun p hp => ?_⟩
    refine ⟨fun (m : Nat) (env : En) (w2 : W) => ∃ (pre : List Str) (last : Str), w2 = w.put p (.lst ((pre ++ [last]).map .str)) ∧ env = [some (.dic kvs), some (.str x), some (.ref p)] ∧ pre.length + m = kvs.length ∧
      (valD kvs (.inr last)).isSome = true ∧ pre ++ wayGo kvs m last = wayOut kvs x, ⟨kvs.length, [], x, rfl, rfl, Nat.zero_add _, hx, rfl⟩, ?_⟩
    rintro m env w2 ⟨pre, last, rfl, rfl, hm, hl, hw⟩
    have at1 : (w.put p (.lst ((pre ++ [last]).map .str))).m p = some (.lst ((pre ++ [last]).map .str)) := W.put_at
    have len1 : ((pre ++ [last]).map D.str).length = pre.length + 1 := by simp
    have ix : atI ((pre ++ [last]).map D.str) (-1) = some (.str last) := by
      rw [List.map_append]; exact DL.atI_last _ _
    have fin : (pre ++ [last]) = wayOut kvs x → Q (.lst ((pre ++ [last]).map .str)) ((w.put p (.lst ((pre ++ [last]).map .str))).del p) := fun e => by
      rw [W.del_put hp, e]; exact hq
    refine Or.inl ⟨_, at1, ?_⟩
    refine ifd (fun c1 => ?_) (fun c1 => ?_)
    · obtain ⟨m', rfl⟩ : ∃ m', m = m' + 1 := ⟨m - 1, by omega⟩
      obtain ⟨d, hd⟩ := Option.isSome_iff_exists.mp hl
      refine Or.inl ⟨_, -1, .str last, at1, rfl, ix, ?_⟩
      refine ⟨.inr last, d, rfl, hd, ?_⟩
      rcases hc last d hd with rfl | ⟨y, rfl, hy⟩
      · refine ⟨_, at1, fin ?_⟩
        rw [← hw]
        unfold wayGo
        rw [hd]
      · refine ⟨⟨_, at1⟩, ?_⟩
        refine Or.inl ⟨_, -1, .str last, at1, rfl, ix, ?_⟩
        refine ⟨.inr last, .str y, rfl, hd, ?_⟩
        refine ⟨_, at1, by rw [len1]; omega, m', Nat.lt_succ_self _, pre ++ [last], y, ?_, rfl, by simp; omega, hy, ?_⟩
        · rw [W.put_put, List.map_append (l₁ := pre ++ [last])]
          rfl
        · rw [← hw]
          conv => rhs; unfold wayGo
          rw [hd]
          simp
    · have e : m = 0 := by omega
      subst e
      exact ⟨_, at1, fin (by rw [← hw]; rfl)⟩
  · exact h.elim
  
def sp_are_uses : DSp := fun ds w Q => match ds with
  | [.dic scopes, .dic bnds, d] => TreeLike scopes ∧ scopes.length < sizeLine ∧ areBnds scopes (.dic bnds) = true ∧ pl d = true ∧ (∀ kvs, d = .dic kvs → kvs.length ≤ sizeLine) ∧ Q (.bl (areUses scopes bnds d)) w
  | _ => False
theorem ok_are_uses (T : Tx K mg) (F : FnAt K mg "are_uses" s_are_uses ["scopes", "bindings", "thing"]) (C_way_out : DCal P w K mg base 1 "way_out" 2 sp_way_out) (C_is_key : DCal P w K mg base 1 "is_key" 2 sp_is_key) (C_is_pair : DCal P w K mg base 1 "is_pair" 1 sp_is_pair) (C_is_word : DCal P w K mg base 1 "is_word" 1 sp_is_word) : DCal P w K mg base 2 "are_uses" 3 sp_are_uses := by
  obtain ⟨f, fd, F, hm, b⟩ := F.ex
  refine ⟨f, fd, _, dfn F sc_are_uses (by intro ds w Q h; first | exact h.elim | (unfold sp_are_uses at h; first | (obtain ⟨rfl, _⟩ := h; rfl) | (obtain ⟨_, rfl, _⟩ := h; rfl) | (obtain ⟨_, _, rfl, _⟩ := h; rfl) | (obtain ⟨_, _, _, rfl, _⟩ := h; rfl) | (obtain ⟨_, _, _, _, rfl, _⟩ := h; rfl) | (obtain ⟨_, _, _, _, _, rfl, _⟩ := h; rfl) | (obtain ⟨_, _, _, _, _, _, rfl, _⟩ := h; rfl) | (obtain ⟨_, _, _, _, _, _, _, rfl, _⟩ := h; rfl) | (obtain ⟨_, _, _, _, _, _, _, _, rfl, _⟩ := h; rfl) | (split at h <;> first | rfl | exact h.elim))) ?_, hm, F.kp, b, rfl⟩
  intro cdv A outer s H E hr hgd
  have hu := hu_of hr
  have nd := sc_are_uses.nd
  refine ⟨_, (dss_cons (ds_if (dt_w (dw_or (dt_not (dt_val (de_callB cd_isi T.b_isinstance (da_cons (dv 2) (da_cons (de_ty (n := "dict") T.b_dict) da_nil))))) (dw_or1 (dt_not (dt_val (de_callB (cd_all rfl) T.b_all (da_cons (de_lcG (own := [("name", 3), ("pair", 4)]) finL_ok rfl nd (di_items (dv 2)) (by kernel_rfl) (fun _ _ _ _ _ => (dg_tup (n := 2) rfl (dgs_cons (dg_name 3 nd) (dgs_cons (dg_name 4 nd) dgs_nil)))) (fun _ _ _ _ _ => dts_nil) (fun _ _ _ _ _ => (de_and (de_call (DCal.mono C_is_word (by decide)) hr hgd takes0 (da_cons (dv 3) da_nil)) (de_one (de_call (DCal.mono C_is_pair (by decide)) hr hgd takes0 (da_cons (dv 4) da_nil)))))) da_nil))))))) (dss_one (ds_ret de_bl)) dss_nil)
      (dss_cons (ds_if (dt_not (dt_val (de_callB (cd_all rfl) T.b_all (da_cons (de_lcG (own := [("scope", 5), ("target", 6)]) finL_ok rfl nd (di_values (dv 2)) (by kernel_rfl) (fun _ _ _ _ _ => (dg_tup (n := 2) rfl (dgs_cons (dg_name 5 nd) (dgs_cons (dg_name 6 nd) dgs_nil)))) (fun _ _ _ _ _ => dts_nil) (fun _ _ _ _ _ => (de_and (de_call (DCal.mono C_is_key (by decide)) hr hgd takes0 (da_cons (dv 0) (da_cons (dv 5) da_nil))) (de_one (de_call (DCal.mono C_is_key (by decide)) hr hgd takes0 (da_cons (dv 1) (da_cons (dv 6) da_nil))))))) da_nil)))) (dss_one (ds_ret de_bl)) dss_nil)
      (dss_one (ds_ret (de_callB (cd_all rfl) T.b_all (da_cons (de_lcG (own := [("scope", 5), ("target", 6)]) finL_ok rfl nd (di_values (dv 2)) (by kernel_rfl) (fun _ _ _ _ _ => (dg_tup (n := 2) rfl (dgs_cons (dg_name 5 nd) (dgs_cons (dg_name 6 nd) dgs_nil)))) (fun _ _ _ _ _ => dts_nil) (fun _ _ _ _ _ => (de_cmp (od_in hu) (de_sub hu (de_sub hu (dv 1) (dv 6)) de_int) (de_call (DCal.mono C_way_out (by decide)) hr hgd takes0 (da_cons (dv 0) (da_cons (dv 5) da_nil)))))) da_nil)))))), ?_⟩
  intro ds w Q h
  unfold sp_are_uses at h
  split at h
  · rename_i scopes bnds d
    obtain ⟨tl, hs, hb, h1, hz, h2⟩ := h
    cases d with
    | dic kvs =>
      have hz := hz kvs rfl
      have hk : plK kvs = true := by unfold pl at h1; exact h1
      have zi : (ditems kvs).length ≤ sizeLine := by unfold ditems; rw [List.length_map]; omega
      have zv : (dvals kvs).length ≤ sizeLine := by unfold dvals; rw [List.length_map]; omega
      have fin : areUses scopes bnds (.dic kvs) = false → Q (.bl false) w := fun e => by rw [e] at h2; exact h2
      refine ⟨_, true, rfl, by decide +kernel, ?_⟩
      refine lc_map (fun p => .bl (match p with | .tup [k, v] => isWord k && isPair v | _ => false)) zi (fun y hy R hR => ?_) (all_bl _ ?_)
      · obtain ⟨k, v, hm, rfl⟩ := mem_ditems hy
        have q := plK_key hk hm
        refine ⟨rfl, rfl, pl_plain q.1, ?_⟩
        have hR : R (.bl (isWord (kD k) && isPair v)) w.mute := hR
        refine ifb (fun e => ?_) (fun e => ?_)
        · rw [e, Bool.true_and] at hR
          exact ⟨q.2, hR⟩
        · rw [e, Bool.false_and] at hR
          exact hR
      rw [all_id]
      refine ifn (fun c1 => ?_) (fun c1 => fin (by rw [areUses_dic, show namesPairs kvs = false from c1]; rfl))
      have pairs : ∀ y ∈ dvals kvs, ∃ a b, y = .tup [a, b] ∧ pl a = true ∧ pl b = true := fun y hy => by
        obtain ⟨k, hm⟩ := mem_dvals hy
        have q := List.all_eq_true.mp c1 _ (List.mem_map.mpr ⟨_, hm, rfl⟩)
        have q : (isWord (kD k) && isPair y) = true := q
        rw [Bool.and_eq_true] at q
        obtain ⟨a, b, rfl⟩ := isPair_tup q.2
        have pp := pl_pair (plK_key hk hm).2
        exact ⟨a, b, rfl, pp.1, pp.2⟩
      refine lc_map (fun d => .bl (keysBoth scopes bnds d)) zv (fun y hy R hR => ?_) (all_bl _ ?_)
      · obtain ⟨a, b, rfl, pa, pb⟩ := pairs y hy
        refine ⟨rfl, rfl, pa, ?_⟩
        have hR : R (.bl (isKey scopes a && isKey bnds b)) w.mute := hR
        refine ifb (fun e => ?_) (fun e => ?_)
        · rw [e, Bool.true_and] at hR
          exact ⟨pb, hR⟩
        · rw [e, Bool.false_and] at hR
          exact hR
      rw [all_id]
      refine ifn (fun c2 => ?_) (fun c2 => fin (by rw [areUses_dic, c2, Bool.false_and, Bool.and_false]))
      refine lc_map (fun d => .bl (useOk scopes bnds d)) zv (fun y hy R hR => ?_) (all_bl _ ?_)
      · obtain ⟨a, b, rfl, pa, pb⟩ := pairs y hy
        have q : (isKey scopes a && isKey bnds b) = true := List.all_eq_true.mp c2 _ hy
        rw [Bool.and_eq_true] at q
        obtain ⟨s, rfl, es⟩ := isKey_str q.1
        obtain ⟨t, rfl, et⟩ := isKey_str q.2
        obtain ⟨v, ev⟩ := Option.isSome_iff_exists.mp et
        obtain ⟨b, x, rfl, _, _⟩ := bnd_at hb ev
        refine ⟨rfl, rfl, .inr t, _, rfl, ev, .str b, rfl, tl.closed, es, hs, ?_⟩
        refine ⟨by rw [scal_strs]; rfl, ?_⟩
        rw [memS_str, Bool.false_xor]
        have e : useOk scopes bnds (.tup [.str s, .str t]) = decide (b ∈ wayOut scopes s) := by
          show (match valD bnds (.inr t) with | some (.tup [.str b, _]) => decide (b ∈ wayOut scopes s) | _ => false) = _
          rw [ev]
        have hR : R (.bl (useOk scopes bnds (.tup [.str s, .str t]))) w.mute := hR
        rw [e] at hR
        exact hR
      rw [all_id]
      rw [areUses_dic, show namesPairs kvs = true from c1, c2, Bool.true_and, Bool.true_and] at h2
      exact h2
    | non => exact ⟨_, false, rfl, by decide +kernel, h2⟩
    | bl b => exact ⟨_, false, rfl, by decide +kernel, h2⟩
    | int i => exact ⟨_, false, rfl, by decide +kernel, h2⟩
    | lst xs => exact ⟨_, false, rfl, by decide +kernel, h2⟩
    | str xs => exact ⟨_, false, rfl, by decide +kernel, h2⟩
    | tup xs => exact ⟨_, false, rfl, by decide +kernel, h2⟩
    | _ => cases h1
  · exact h.elim
  
def sp_is_tree : DSp := fun ds w Q => match ds with
  | [d] => pl d = true ∧ (∀ kvs, d = .dic kvs → kvs.length < sizeLine) ∧ Q (.bl (isTree d)) w
  | _ => False
theorem ok_is_tree (T : Tx K mg) (F : FnAt K mg "is_tree" s_is_tree ["thing"]) (C_way_out : DCal P w K mg base 1 "way_out" 2 sp_way_out) (C_is_key : DCal P w K mg base 1 "is_key" 2 sp_is_key) (C_is_word : DCal P w K mg base 1 "is_word" 1 sp_is_word) : DCal P w K mg base 2 "is_tree" 1 sp_is_tree := by
  obtain ⟨f, fd, F, hm, b⟩ := F.ex
  refine ⟨f, fd, _, dfn F sc_is_tree (by intro ds w Q h; first | exact h.elim | (unfold sp_is_tree at h; first | (obtain ⟨rfl, _⟩ := h; rfl) | (obtain ⟨_, rfl, _⟩ := h; rfl) | (obtain ⟨_, _, rfl, _⟩ := h; rfl) | (obtain ⟨_, _, _, rfl, _⟩ := h; rfl) | (obtain ⟨_, _, _, _, rfl, _⟩ := h; rfl) | (obtain ⟨_, _, _, _, _, rfl, _⟩ := h; rfl) | (obtain ⟨_, _, _, _, _, _, rfl, _⟩ := h; rfl) | (obtain ⟨_, _, _, _, _, _, _, rfl, _⟩ := h; rfl) | (obtain ⟨_, _, _, _, _, _, _, _, rfl, _⟩ := h; rfl) | (split at h <;> first | rfl | exact h.elim))) ?_, hm, F.kp, b, rfl⟩
  intro cdv A outer s H E hr hgd
  have hu := hu_of hr
  have nd := sc_is_tree.nd
  refine ⟨_, (dss_cons (ds_if (dt_w (dw_or (dt_not (dt_val (de_callB cd_isi T.b_isinstance (da_cons (dv 0) (da_cons (de_ty (n := "dict") T.b_dict) da_nil))))) (dw_or1 (dt_not (dt_val (de_callB (cd_all rfl) T.b_all (da_cons (de_lcG (own := [("scope", 2)]) finL_ok rfl nd (di_any (dv 0)) (by kernel_rfl) (fun _ _ _ _ _ => (dg_name 2 nd)) (fun _ _ _ _ _ => dts_nil) (fun _ _ _ _ _ => (de_call (DCal.mono C_is_word (by decide)) hr hgd takes0 (da_cons (dv 2) da_nil)))) da_nil))))))) (dss_one (ds_ret de_bl)) dss_nil)
      (dss_cons (ds_if (dt_not (dt_val (de_callB (cd_all rfl) T.b_all (da_cons (de_lcG (own := [("parent", 3)]) finL_ok rfl nd (di_values (dv 0)) (by kernel_rfl) (fun _ _ _ _ _ => (dg_name 3 nd)) (fun _ _ _ _ _ => dts_nil) (fun _ _ _ _ _ => (de_or (de_cmp od_is (dv 3) de_non) (de_one (de_call (DCal.mono C_is_key (by decide)) hr hgd takes0 (da_cons (dv 0) (da_cons (dv 3) da_nil))))))) da_nil)))) (dss_one (ds_ret de_bl)) dss_nil)
      (dss_cons (ds_set (i := 1) nd (de_lcG (own := [("scope", 2)]) finL_ok rfl nd (di_any (dv 0)) (by kernel_rfl) (fun _ _ _ _ _ => (dg_name 2 nd)) (fun _ _ _ _ _ => (dts_one (dt_cmp od_is (de_sub hu (dv 0) (dv 2)) de_non))) (fun _ _ _ _ _ => (dv 2))))
      (dss_one (ds_ret (de_and (de_cmp (od_eq hr.units) (de_callB cd_len T.b_len (da_cons (dv 1) da_nil)) de_int) (de_one (de_callB (cd_all rfl) T.b_all (da_cons (de_lcG (own := [("scope", 2)]) finL_ok rfl nd (di_any (dv 0)) (by kernel_rfl) (fun _ _ _ _ _ => (dg_name 2 nd)) (fun _ _ _ _ _ => dts_nil) (fun _ _ _ _ _ => (de_cmp (od_eq hr.units) (de_sub hu (de_call (DCal.mono C_way_out (by decide)) hr hgd takes0 (da_cons (dv 0) (da_cons (dv 2) da_nil))) (de_neg de_int)) (de_sub hu (dv 1) de_int)))) da_nil))))))))), ?_⟩
  intro ds w Q h
  match ds, h with
  | [d], h =>
    obtain ⟨h1, hz, h2⟩ := h
    cases d with
    | dic kvs =>
      have hz := hz kvs rfl
      have hk : plK kvs = true := by unfold pl at h1; exact h1
      have zk : (dkeys kvs).length ≤ sizeLine := by unfold dkeys; rw [List.length_map]; omega
      have zv : (dvals kvs).length ≤ sizeLine := by unfold dvals; rw [List.length_map]; omega
      have fin : isTree (.dic kvs) = false → Q (.bl false) w := fun e => by rw [e] at h2; exact h2
      refine ⟨_, true, rfl, by decide +kernel, ?_⟩
      refine lc_map (fun x => .bl (isWord x)) zk (fun y hy R hR => ?_) (all_bl _ ?_)
      · obtain ⟨k, v, hm, rfl⟩ := mem_dkeys hy
        exact ⟨pl_plain (plK_key hk hm).1, hR⟩
      rw [all_id]
      refine ifn (fun c1 => ?_) (fun c1 => fin (by rw [isTree_dic, c1]; rfl))
      refine lc_map (fun d => .bl (isNon d || isKey kvs d)) zv (fun y hy R hR => ?_) (all_bl _ ?_)
      · obtain ⟨k, hm⟩ := mem_dvals hy
        have py := (plK_key hk hm).2
        cases y <;> first | exact hR | exact ⟨py, hR⟩
      rw [all_id]
      refine ifn (fun c2 => ?_) (fun c2 => fin (by rw [isTree_dic, c2, Bool.false_and, Bool.and_false]))
      have tl := TreeLike.of c1 c2
      refine lc_filter (nonAt kvs) id zk (fun y hy R S hR hS => ?_) ?_
      · obtain ⟨s, rfl, hs⟩ := tl.keys y hy
        obtain ⟨d, hd⟩ := Option.isSome_iff_exists.mp hs
        refine ⟨.inr s, d, rfl, hd, ?_⟩
        have e : nonAt kvs (.str s) = (match some d with | some .non => true | _ => false) := by
          show (match valD kvs (.inr s) with | some .non => true | _ => false) = _
          rw [hd]
        rw [e] at hR hS
        cases d <;> first | exact hR rfl | exact hS rfl
      rw [List.map_id]
      refine ify (fun c3 => ?_) (fun c3 => fin (by rw [isTree_dic, show decide (((rootsOf kvs).length : Int) = 1) = false from c3, Bool.false_and, Bool.and_false, Bool.and_false]))
      have c3 : ((rootsOf kvs).length : Int) = 1 := of_decide_eq_true c3
      obtain ⟨x0, e0⟩ : ∃ x0, rootsOf kvs = [x0] := by
        match e : rootsOf kvs with
        | [] => rw [e] at c3; cases c3
        | [x] => exact ⟨x, rfl⟩
        | _ :: _ :: _ => rw [e] at c3; simp at c3; omega
      obtain ⟨r, rfl, _⟩ := tl.keys x0 (List.mem_filter.mp (show x0 ∈ rootsOf kvs by rw [e0]; exact List.mem_singleton.mpr rfl)).1
      refine lc_map (fun x => .bl (endsAt kvs x)) zk (fun y hy R hR => ?_) (all_bl _ ?_)
      · obtain ⟨s, rfl, hs⟩ := tl.keys y hy
        refine ⟨tl.closed, hs, hz, ?_⟩
        obtain ⟨a, ea, ia⟩ := way_last kvs s
        refine ⟨.str a, ia, ?_⟩
        refine ⟨.str r, (show atI (rootsOf kvs) 0 = some (.str r) by rw [e0]; rfl), ?_⟩
        show R (.bl (false ^^ decide (a = r))) _
        rw [Bool.false_xor]
        have e : endsAt kvs (.str s) = decide (a = r) := by
          show (match (wayOut kvs s).getLast?, (rootsOf kvs).head? with | some a, some (.str b) => decide (a = b) | _, _ => false) = _
          rw [ea, e0]
          rfl
        have hR : R (.bl (endsAt kvs (.str s))) w.mute := hR
        rw [e] at hR
        exact hR
      · rw [all_id]
        rw [isTree_dic, c1, c2, show decide (((rootsOf kvs).length : Int) = 1) = true from decide_eq_true c3, Bool.true_and, Bool.true_and, Bool.true_and] at h2
        exact h2
    | non => exact ⟨_, false, rfl, by decide +kernel, h2⟩
    | bl b => exact ⟨_, false, rfl, by decide +kernel, h2⟩
    | int i => exact ⟨_, false, rfl, by decide +kernel, h2⟩
    | lst xs => exact ⟨_, false, rfl, by decide +kernel, h2⟩
    | str xs => exact ⟨_, false, rfl, by decide +kernel, h2⟩
    | tup xs => exact ⟨_, false, rfl, by decide +kernel, h2⟩
    | _ => cases h1
  
def sp_is_program : DSp := fun ds w Q => match ds with
  | [s, b, u, o, r] => pl s = true ∧ pl b = true ∧ pl u = true ∧ pl o = true ∧ pl r = true ∧ smallD s ∧ smallD b ∧ smallD u ∧ smallD o ∧ smallD r ∧ Q (.bl (isProg s b u o r)) w
  | _ => False
theorem ok_is_program (T : Tx K mg) (F : FnAt K mg "is_program" s_is_program ["scopes", "bindings", "uses", "outer", "reserved"]) (C_are_words : DCal P w K mg base 2 "are_words" 1 sp_are_words) (C_are_bindings : DCal P w K mg base 2 "are_bindings" 2 sp_are_bindings) (C_are_uses : DCal P w K mg base 2 "are_uses" 3 sp_are_uses) (C_is_tree : DCal P w K mg base 2 "is_tree" 1 sp_is_tree) : DCal P w K mg base 3 "is_program" 5 sp_is_program := by
  obtain ⟨f, fd, F, hm, b⟩ := F.ex
  refine ⟨f, fd, _, dfn F sc_is_program (by intro ds w Q h; first | exact h.elim | (unfold sp_is_program at h; first | (obtain ⟨rfl, _⟩ := h; rfl) | (obtain ⟨_, rfl, _⟩ := h; rfl) | (obtain ⟨_, _, rfl, _⟩ := h; rfl) | (obtain ⟨_, _, _, rfl, _⟩ := h; rfl) | (obtain ⟨_, _, _, _, rfl, _⟩ := h; rfl) | (obtain ⟨_, _, _, _, _, rfl, _⟩ := h; rfl) | (obtain ⟨_, _, _, _, _, _, rfl, _⟩ := h; rfl) | (obtain ⟨_, _, _, _, _, _, _, rfl, _⟩ := h; rfl) | (obtain ⟨_, _, _, _, _, _, _, _, rfl, _⟩ := h; rfl) | (split at h <;> first | rfl | exact h.elim))) ?_, hm, F.kp, b, rfl⟩
  intro cdv A outer s H E hr hgd
  have hu := hu_of hr
  have nd := sc_is_program.nd
  refine ⟨_, (dss_cons (ds_if (dt_w (dw_or (dt_not (dt_val (de_call (DCal.mono C_is_tree (by decide)) hr hgd (takes_of rfl rfl rfl rfl) (da_cons (dv 0) da_nil)))) (dw_or (dt_not (dt_val (de_call (DCal.mono C_are_bindings (by decide)) hr hgd (takes_of rfl rfl rfl rfl) (da_cons (dv 0) (da_cons (dv 1) da_nil))))) (dw_or1 (dt_not (dt_val (de_call (DCal.mono C_are_uses (by decide)) hr hgd (takes_of rfl rfl rfl rfl) (da_cons (dv 0) (da_cons (dv 1) (da_cons (dv 2) da_nil)))))))))) (dss_one (ds_ret de_bl)) dss_nil)
      (dss_cons (ds_if (dt_w (dw_or (dt_not (dt_val (de_call (DCal.mono C_are_bindings (by decide)) hr hgd (takes_of rfl rfl rfl rfl) (da_cons (dv 0) (da_cons (dv 3) da_nil))))) (dw_or1 (dt_not (dt_val (de_call (DCal.mono C_are_words (by decide)) hr hgd (takes_of rfl rfl rfl rfl) (da_cons (dv 4) da_nil))))))) (dss_one (ds_ret de_bl)) dss_nil)
      (dss_one (ds_ret (de_not (de_callB (cd_any rfl) T.b_any (da_cons (de_lcG (own := [("name", 5)]) finL_ok rfl nd (di_any (dv 3)) (by kernel_rfl) (fun _ _ _ _ _ => (dg_name 5 nd)) (fun _ _ _ _ _ => dts_nil) (fun _ _ _ _ _ => (de_cmp (od_in hu) (dv 5) (dv 2)))) da_nil))))))), ?_⟩
  intro ds w Q h
  match ds, h with
  | [s, b, u, o, r], h =>
    obtain ⟨p1, p2, p3, p4, p5, z1, z2, z3, z4, z5, h2⟩ := h
    have fin : isProg s b u o r = false → Q (.bl false) w := fun e => by rw [e] at h2; exact h2
    refine ⟨p1, z1.1, ?_⟩
    refine ifn (fun c1 => ?_) (fun c1 => fin (isProg_no (.inl c1)))
    obtain ⟨sc, rfl, tl⟩ := tree_dic c1
    refine ⟨p2, fun kvs e => Nat.le_of_lt (z2.1 kvs e), ?_⟩
    refine ifn (fun c2 => ?_) (fun c2 => fin (isProg_no (.inr (.inl ⟨sc, rfl, .inl c2⟩))))
    obtain ⟨bn, rfl⟩ := bnds_dic c2
    refine ⟨tl, z1.1 sc rfl, c2, p3, fun kvs e => Nat.le_of_lt (z3.1 kvs e), ?_⟩
    refine ifn (fun c3 => ?_) (fun c3 => fin (isProg_no (.inr (.inl ⟨sc, rfl, .inr (.inr ⟨bn, rfl, c3⟩)⟩))))
    obtain ⟨us, rfl⟩ := uses_dic c3
    refine ⟨p4, fun kvs e => Nat.le_of_lt (z4.1 kvs e), ?_⟩
    refine ifn (fun c4 => ?_) (fun c4 => fin (isProg_no (.inr (.inl ⟨sc, rfl, .inr (.inl c4)⟩))))
    obtain ⟨os, rfl⟩ := bnds_dic c4
    refine ⟨p5, z5.2, ?_⟩
    refine ifn (fun c5 => ?_) (fun c5 => fin (isProg_no (.inr (.inr c5))))
    have zo := z4.1 os rfl
    refine lc_map (fun x => .bl (hasKey us x)) (by unfold dkeys; rw [List.length_map]; omega) (fun y hy R hR => ?_) (any_bl _ ?_)
    · obtain ⟨k, v, hm, rfl⟩ := mem_dkeys hy
      refine ⟨k, keyOf_kD k, ?_⟩
      have e : hasKey us (kD k) = (valD us k).isSome := by unfold hasKey; rw [keyOf_kD]
      have hR : R (.bl (hasKey us (kD k))) w.mute := hR
      rw [e] at hR
      rw [Bool.false_xor]
      exact hR
    · have e : isProg (.dic sc) (.dic bn) (.dic us) (.dic os) r = !(dkeys os).any (hasKey us) := by
        unfold isProg
        dsimp only
        rw [c1, c2, c3, c4, c5]
        rfl
      rw [e] at h2
      exact h2
  
def sp_Program___init__ : DSp := fun ds w Q => ∃ p dx P r, ds = [.ref p, .dic (scK P.sc), .dic (tbK P.bn), .dic (tbK P.us), .dic (tbK P.ou), r] ∧ WF P ∧ wordsOf r P.rs ∧ w.m p = some (.ins "Program" dx []) ∧ Q .non (w.put p (.ins "Program" dx (progF (sortP P))))
theorem mk_prog {P : Parts} {r : D} (wf : WF P) (hw : wordsOf r P.rs) {env : En} {w1 : W} {Q : DK} (q : Q (progD (sortP P)) w1) : ∀ x dx, w1.m x = none →
    sp_Program___init__ [.ref x, .dic (scK P.sc), .dic (tbK P.bn), .dic (tbK P.us), .dic (tbK P.ou), r] ((w1.put x (.ins "Program" dx [])).inn env) fun d w2 => d = .non ∧ ∃ fs, w2.m x = some (.ins "Program" dx fs) ∧ Q (.obj "Program" fs) ((w2.del x).as w1) := by
  intro x dx hx
  refine ⟨x, dx, P, r, rfl, wf, hw, W.put_at, rfl, _, W.put_at, ?_⟩
  have e : (((w1.put x (.ins "Program" dx [])).put x (.ins "Program" dx (progF (sortP P)))).del x) = w1 := by
    rw [W.put_put, W.del_put hx]
  rw [← e] at q
  exact q
theorem ok_Program___init__ (T : Tx K mg) (F : FnMk K mg "Program" "Program.__init__" s_Program___init__ ["self", "scopes", "bindings", "uses", "outer", "reserved"]) (C_ascending : DCal P w K mg base 1 "ascending" 1 sp_ascending) (C_is_program : DCal P w K mg base 3 "is_program" 5 sp_is_program) : DMak P w K mg base 4 "Program" 6 sp_Program___init__ := by
  obtain ⟨C, f, fd, kC, hC, hM, F, b⟩ := F.ex
  refine ⟨C, f, fd, _, kC, hC, hM, dfn F sc_Program___init__ (by intro ds w Q h; first | exact h.elim | (unfold sp_Program___init__ at h; first | (obtain ⟨rfl, _⟩ := h; rfl) | (obtain ⟨_, rfl, _⟩ := h; rfl) | (obtain ⟨_, _, rfl, _⟩ := h; rfl) | (obtain ⟨_, _, _, rfl, _⟩ := h; rfl) | (obtain ⟨_, _, _, _, rfl, _⟩ := h; rfl) | (obtain ⟨_, _, _, _, _, rfl, _⟩ := h; rfl) | (obtain ⟨_, _, _, _, _, _, rfl, _⟩ := h; rfl) | (obtain ⟨_, _, _, _, _, _, _, rfl, _⟩ := h; rfl) | (obtain ⟨_, _, _, _, _, _, _, _, rfl, _⟩ := h; rfl) | (split at h <;> first | rfl | exact h.elim))) ?_, b, rfl⟩
  intro cdv A outer s H E hr hgd
  have hu := hu_of hr
  have nd := sc_Program___init__.nd
  refine ⟨_, (dss_cons (ds_if (dt_not (dt_val (de_call (DCal.mono C_is_program (by decide)) hr hgd (takes_of rfl rfl rfl rfl) (da_cons (dv 1) (da_cons (dv 2) (da_cons (dv 3) (da_cons (dv 4) (da_cons (dv 5) da_nil)))))))) (dss_one ds_never) dss_nil)
      (dss_cons (ds_fld T.f_Program_parents (dv 0) (de_call (DCal.mono C_ascending (by decide)) hr hgd (takes_of rfl rfl rfl rfl) (da_cons (dv 1) da_nil)))
      (dss_cons (ds_fld T.f_Program_declared (dv 0) (de_call (DCal.mono C_ascending (by decide)) hr hgd (takes_of rfl rfl rfl rfl) (da_cons (dv 2) da_nil)))
      (dss_cons (ds_fld T.f_Program_targets (dv 0) (de_call (DCal.mono C_ascending (by decide)) hr hgd (takes_of rfl rfl rfl rfl) (da_cons (dv 3) da_nil)))
      (dss_cons (ds_fld T.f_Program_outside (dv 0) (de_call (DCal.mono C_ascending (by decide)) hr hgd (takes_of rfl rfl rfl rfl) (da_cons (dv 4) da_nil)))
      (dss_one (ds_fld T.f_Program_blocked (dv 0) (de_callTy cd_tuple T.b_tuple (da_cons (de_sortSet rfl hr.units T.b_sorted T.b_set (dv 5)) da_nil))))))))), ?_⟩
  intro ds w Q h
  obtain ⟨p, dx, P, r, rfl, wf, hw, hm, hq⟩ := h
  have o := wf.okProg hw
  rw [← progFs_nat wf] at hq
  obtain ⟨k1, z1⟩ := o.k1
  obtain ⟨k2, z2⟩ := o.k2
  obtain ⟨k3, z3⟩ := o.k3
  obtain ⟨k4, z4⟩ := o.k4
  have few := o.few
  have hp := o.ok
  refine ⟨o.p1, o.p2, o.p3, o.p4, o.p5, small_dic z1, small_dic z2, small_dic z3, small_dic z4, words_small hw (scan_size few), ?_⟩
  refine ifn (fun _ => ?_) (fun e => by rw [hp] at e; cases e)
  refine ⟨k1, Nat.le_of_lt z1, dx, _, hm, by decide, ?_⟩
  refine ⟨k2, Nat.le_of_lt z2, dx, _, W.put_at, Nat.lt_of_le_of_lt (putFD_le (Nat.le_refl 0)) (by decide), ?_⟩
  refine ⟨k3, Nat.le_of_lt z3, dx, _, W.put_at, Nat.lt_of_le_of_lt (putFD_le (putFD_le (Nat.le_refl 0))) (by decide), ?_⟩
  refine ⟨k4, Nat.le_of_lt z4, dx, _, W.put_at, Nat.lt_of_le_of_lt (putFD_le (putFD_le (putFD_le (Nat.le_refl 0)))) (by decide), ?_⟩
  refine ⟨P.rs, words_in hw, few, dx, _, W.put_at, Nat.lt_of_le_of_lt (putFD_le (putFD_le (putFD_le (putFD_le (Nat.le_refl 0))))) (by decide), ?_⟩
  generalize scK P.sc = sc at hq ⊢
  generalize tbK P.bn = bn at hq ⊢
  generalize tbK P.us = us at hq ⊢
  generalize tbK P.ou = os at hq ⊢
  have e : putFD "blocked" (.tup ((sortT (nubT P.rs)).map .str)) (putFD "outside" (.dic (ascD os)) (putFD "targets" (.dic (ascD us)) (putFD "declared" (.dic (ascD bn)) (putFD "parents" (.dic (ascD sc)) [])))) = progFs sc bn us os P.rs := by kernel_rfl
  rw [← e] at hq
  have five : ∀ {m1 m2 m3 m4 m5 : MO}, ((((w.put p m1).put p m2).put p m3).put p m4).put p m5 = w.put p m5 := by
    intro m1 m2 m3 m4 m5
    rw [W.put_put, W.put_put, W.put_put, W.put_put]
  rw [← five (m1 := .ins "Program" dx (putFD "parents" (.dic (ascD sc)) [])) (m2 := .ins "Program" dx (putFD "declared" (.dic (ascD bn)) (putFD "parents" (.dic (ascD sc)) [])))
    (m3 := .ins "Program" dx (putFD "targets" (.dic (ascD us)) (putFD "declared" (.dic (ascD bn)) (putFD "parents" (.dic (ascD sc)) []))))
    (m4 := .ins "Program" dx (putFD "outside" (.dic (ascD os)) (putFD "targets" (.dic (ascD us)) (putFD "declared" (.dic (ascD bn)) (putFD "parents" (.dic (ascD sc)) [])))))] at hq
  exact hq
  
def sp__law_program : DSp := fun ds w Q => ∃ P r, ds = [.tup [.dic (scK P.sc), .dic (tbK P.bn), .dic (tbK P.us), .dic (tbK P.ou), r]] ∧ WF P ∧ wordsOf r P.rs ∧ Q (progD (sortP P)) w
theorem ok__law_program (T : Tx K mg) (F : FnAt K mg "_law_program" s__law_program ["_law_parts_here"]) (C_Program___init__ : DMak P w K mg base 4 "Program" 6 sp_Program___init__) : DCal P w K mg base 6 "_law_program" 1 sp__law_program := by
  obtain ⟨f, fd, F, hm, b⟩ := F.ex
  refine ⟨f, fd, _, dfn F sc__law_program (by intro ds w Q h; first | exact h.elim | (unfold sp__law_program at h; first | (obtain ⟨rfl, _⟩ := h; rfl) | (obtain ⟨_, rfl, _⟩ := h; rfl) | (obtain ⟨_, _, rfl, _⟩ := h; rfl) | (obtain ⟨_, _, _, rfl, _⟩ := h; rfl) | (obtain ⟨_, _, _, _, rfl, _⟩ := h; rfl) | (obtain ⟨_, _, _, _, _, rfl, _⟩ := h; rfl) | (obtain ⟨_, _, _, _, _, _, rfl, _⟩ := h; rfl) | (obtain ⟨_, _, _, _, _, _, _, rfl, _⟩ := h; rfl) | (obtain ⟨_, _, _, _, _, _, _, _, rfl, _⟩ := h; rfl) | (split at h <;> first | rfl | exact h.elim))) ?_, hm, F.kp, b, rfl⟩
  intro cdv A outer s H E hr hgd
  have hu := hu_of hr
  have nd := sc__law_program.nd
  refine ⟨_, (dss_one (ds_ret (de_make (DMak.mono C_Program___init__ (by decide)) hr hgd (takes_of rfl rfl rfl rfl) (da_cons (de_sub hu (dv 0) de_int) (da_cons (de_sub hu (dv 0) de_int) (da_cons (de_sub hu (dv 0) de_int) (da_cons (de_sub hu (dv 0) de_int) (da_cons (de_sub hu (dv 0) de_int) da_nil)))))))), ?_⟩
  intro ds w Q h
  obtain ⟨P, r, rfl, o, hw, hq⟩ := h
  refine ⟨_, rfl, _, rfl, _, rfl, _, rfl, _, rfl, fun px dx hpx => ?_⟩
  refine ⟨px, dx, P, _, rfl, o, hw, W.put_at, rfl, _, W.put_at, ?_⟩
  rw [mk_st hpx]
  exact hq
  
def sp_scope_lines : DSp := fun ds w Q => ∃ P, ds = [progD P] ∧ WF P ∧ ∀ p, w.m p = none → Q (.ref p) (w.put p (.lst ((scL P.sc (keysN P.sc)).map .str)))
theorem ok_scope_lines (T : Tx K mg) (F : FnAt K mg "scope_lines" s_scope_lines ["program"])  : DCal P w K mg base 1 "scope_lines" 1 sp_scope_lines := by
  obtain ⟨f, fd, F, hm, b⟩ := F.ex
  obtain ⟨u_NO_PARENT, c_NO_PARENT⟩ := T.c_NO_PARENT
  refine ⟨f, fd, _, dfn F sc_scope_lines (by intro ds w Q h; first | exact h.elim | (unfold sp_scope_lines at h; first | (obtain ⟨rfl, _⟩ := h; rfl) | (obtain ⟨_, rfl, _⟩ := h; rfl) | (obtain ⟨_, _, rfl, _⟩ := h; rfl) | (obtain ⟨_, _, _, rfl, _⟩ := h; rfl) | (obtain ⟨_, _, _, _, rfl, _⟩ := h; rfl) | (obtain ⟨_, _, _, _, _, rfl, _⟩ := h; rfl) | (obtain ⟨_, _, _, _, _, _, rfl, _⟩ := h; rfl) | (obtain ⟨_, _, _, _, _, _, _, rfl, _⟩ := h; rfl) | (obtain ⟨_, _, _, _, _, _, _, _, rfl, _⟩ := h; rfl) | (split at h <;> first | rfl | exact h.elim))) ?_, hm, F.kp, b, rfl⟩
  intro cdv A outer s H E hr hgd
  have hu := hu_of hr
  have nd := sc_scope_lines.nd
  refine ⟨_, (dss_cons (ds_set (i := 1) nd (de_lstM da_nil))
      (dss_cons (ds_set (i := 2) nd (de_lstM da_nil))
      (dss_cons (ds_while (passes_of rfl) (dt_cmp od_lt (de_callB cd_len T.b_len (da_cons (dv 2) da_nil)) (de_callB cd_len T.b_len (da_cons (de_fld T.f_Program_parents (dv 0)) da_nil))) (dss_cons (ds_setLcG (i := 3) (own := [("scope", 6)]) finL_ok rfl nd (di_any (de_fld T.f_Program_parents (dv 0))) (by kernel_rfl) (fun _ _ _ _ _ => (dg_name 6 nd)) (fun _ _ _ _ _ => (dts_one (dt_cmp (od_notin hu) (dv 6) (dv 2)))) (fun _ _ _ _ _ => (dv 6)))
      (dss_cons (ds_setLcG (i := 4) (own := [("scope", 6)]) finL_ok rfl nd (di_any (dv 3)) (by kernel_rfl) (fun _ _ _ _ _ => (dg_name 6 nd)) (fun _ _ _ _ _ => (dts_one (dt_w (dw_or (dt_cmp od_is (de_sub hu (de_fld T.f_Program_parents (dv 0)) (dv 6)) de_non) (dw_or1 (dt_cmp (od_in hu) (de_sub hu (de_fld T.f_Program_parents (dv 0)) (dv 6)) (dv 2))))))) (fun _ _ _ _ _ => (dv 6)))
      (dss_cons (ds_expr (de_bm PySem.F.slot_list_append PySem.F.type_list_append md_append (dv 2) (da_cons (de_sub hu (dv 4) de_int) da_nil)))
      (dss_cons (ds_set (i := 5) nd (de_sub hu (de_fld T.f_Program_parents (dv 0)) (de_sub hu (dv 4) de_int)))
      (dss_one (ds_expr (de_bm PySem.F.slot_list_append PySem.F.type_list_append md_append (dv 1) (da_cons (de_joined (.cons de_str (.cons (de_fmt (de_sub hu (dv 4) de_int)) (.cons de_str (.cons (de_fmt (de_if (dt_cmp od_is (dv 5) de_non) (de_gstr c_NO_PARENT) (dv 5))) .nil))))) da_nil)))))))))
      (dss_one (ds_ret (de_fgt (dv 1))))))), ?_⟩
  intro ds w Q h
  obtain ⟨P, rfl, o, hq⟩ := h
  refine ⟨sz_nat 0, fun p hp => ?_⟩
  refine ⟨sz_nat 0, fun q hq0 => ?_⟩
  have hqp : q ≠ p := fun z => by
    have : updM w.m p (.lst []) q = none := hq0
    rw [z] at this
    unfold updM at this
    rw [if_pos rfl] at this
    cases this
  have hqw : w.m q = none := by
    have : updM w.m p (.lst []) q = none := hq0
    unfold updM at this
    rw [if_neg hqp] at this
    exact this
  have hl := o.sm.1
  refine ⟨fun m env w2 => ∃ (n : Nat) (a3 a4 a5 : Option D), n + m = P.sc.length ∧ env = [some (progD P), some (.ref p), some (.ref q), a3, a4, a5, none] ∧ w2 = (w.put p (.lst (((ordS P.sc (keysN P.sc) n).map (lineS P.sc)).map .str))).put q (.lst ((ordS P.sc (keysN P.sc) n).map .str)), ⟨P.sc.length, 0, _, _, _, Nat.zero_add _, rfl, rfl⟩, ?_⟩
  rintro m env w2 ⟨n, a3, a4, a5, hm, rfl, rfl⟩
  have dk := ordS_ok o.sc (ks := keysN P.sc) (fun _ => Iff.rfl) n (by omega)
  have atq : ((w.put p (.lst (((ordS P.sc (keysN P.sc) n).map (lineS P.sc)).map .str))).put q (.lst ((ordS P.sc (keysN P.sc) n).map .str))).m q = some (.lst ((ordS P.sc (keysN P.sc) n).map .str)) := W.put_at
  have atp : ((w.put p (.lst (((ordS P.sc (keysN P.sc) n).map (lineS P.sc)).map .str))).put q (.lst ((ordS P.sc (keysN P.sc) n).map .str))).m p = some (.lst (((ordS P.sc (keysN P.sc) n).map (lineS P.sc)).map .str)) := by
    rw [W.put_ne (fun z => hqp z.symm)]
    exact W.put_at
  refine Or.inl ⟨_, atq, ?_⟩
  refine ⟨rfl, _, rfl, ?_⟩
  refine ifd (fun c1 => ?_) (fun c1 => ?_)
  · have c1 : n < P.sc.length := by
      have c1 : ((((ordS P.sc (keysN P.sc) n).map D.str).length : Nat) : Int) < ((scK P.sc).length : Nat) := c1
      rw [List.length_map, ordS_len, len_mK] at c1
      omega
    obtain ⟨x, r, ef, ex, hx, hrd⟩ := next_ready o.sc (ks := keysN P.sc) (fun _ => Iff.rfl) dk (by rw [ordS_len]; exact c1)
    refine ⟨rfl, _, rfl, ?_⟩
    generalize hdn : ordS P.sc (keysN P.sc) n = done at atp atq dk ex ef hrd ⊢
    have hscal : (done.map D.str).all scalD = true := by
      rw [List.all_map]
      exact List.all_eq_true.mpr fun _ _ => rfl
    refine lc_filtK oD P.sc (fun s => !decide (s ∈ done)) D.str (by omega) (fun s hs R S hR hS => ?_) ?_
    · refine .inl ⟨_, atq, by rw [hscal]; rfl, ?_⟩
      rw [memS_str]
      exact ifne (fun c => hR (by rw [c]; rfl)) (fun c => hS (by rw [c]; rfl))
    refine lc_filtM ((keysN P.sc).filter fun s => !decide (s ∈ done)) D.str (fun s => match lk P.sc s with | some (some y) => decide (y ∈ done) | _ => true) D.str (by have := List.length_filter_le (fun s => !decide (s ∈ done)) (keysN P.sc); rw [len_keysN] at this; omega) (fun s hs R S hR hS => ?_) ?_
    · have hk := (List.mem_filter.mp hs).1
      obtain ⟨e, he, es⟩ := List.mem_map.mp hk
      have hlk : lk P.sc s = some e.2 := by rw [← es]; exact lk_of_mem o.sc.nd he
      have hv : valD (scK P.sc) (.inr s) = some (oD e.2) := by rw [valD_mK, hlk]; rfl
      refine ⟨rfl, _, rfl, _, _, rfl, hv, ?_⟩
      rw [hlk] at hR hS
      cases e2 : e.2 with
      | none =>
        rw [e2] at hR
        exact hR rfl
      | some y =>
        rw [e2] at hR hS hv
        refine ⟨rfl, _, rfl, _, _, rfl, hv, ?_⟩
        refine .inl ⟨_, atq, by rw [hscal]; rfl, ?_⟩
        rw [show oD (some y) = D.str y from rfl, memS_str]
        exact ify (fun c => hR c) (fun c => hS c)
    have hf : ((keysN P.sc).filter fun s => !decide (s ∈ done)).filter (fun s => match lk P.sc s with | some (some y) => decide (y ∈ done) | _ => true) = x :: r := by
      rw [List.filter_filter, ← ef]
      refine List.filter_congr fun s _ => ?_
      unfold readyB
      exact Bool.and_comm _ _
    rw [hf]
    have hv : valD (scK P.sc) (.inr x) = (lk P.sc x).map oD := valD_mK oD P.sc x
    obtain ⟨e, he, es⟩ := List.mem_map.mp hx
    have hlk : lk P.sc x = some e.2 := by rw [← es]; exact lk_of_mem o.sc.nd he
    rw [hlk] at hv
    have hv : valD (scK P.sc) (.inr x) = some (oD e.2) := hv
    have a0 : atI ((x :: r).map D.str) 0 = some (.str x) := atI_of (by decide) rfl
    have ld : done.length = n := by rw [← hdn]; exact ordS_len _ _ _
    refine ⟨⟨_, atq⟩, _, a0, _, atq, by rw [List.length_map, ld]; exact Nat.lt_of_lt_of_le (by omega : n < 1001) (sz_nat 1001), ?_⟩
    refine ⟨rfl, _, rfl, _, a0, _, _, rfl, hv, ?_⟩
    have hqp' : p ≠ q := fun z => hqp z.symm
    have atp2 : (((w.put p (.lst ((done.map (lineS P.sc)).map .str))).put q (.lst (done.map .str))).put q (.lst (done.map .str ++ [.str x]))).m p = some (.lst ((done.map (lineS P.sc)).map .str)) := by
      rw [W.put_put, W.put_ne hqp']
      exact W.put_at
    refine ⟨⟨_, atp2⟩, ?_⟩
    have xl := word_len (o.sc.wd x hx)
    have eN : ordS P.sc (keysN P.sc) (n + 1) = done ++ [x] := by
      show ordS P.sc (keysN P.sc) n ++ [nextS P.sc (keysN P.sc) (ordS P.sc (keysN P.sc) n)] = _
      rw [hdn, ex]
    have s1 : (Str.empty ++ ("scope " : Str)).length = 6 := rfl
    have s2 : (Str.empty ++ ("scope " : Str) ++ x).length ≤ 14 := by rw [len_app, s1]; omega
    have s3 : (Str.empty ++ ("scope " : Str) ++ x ++ (" " : Str)).length ≤ 15 := by rw [len_app]; show _ + 1 ≤ 15; omega
    have fin : ∀ y : Str, y = parS P.sc x → (Str.empty ++ ("scope " : Str) ++ x ++ (" " : Str) ++ y) = lineS P.sc x := fun y hy => by rw [hy]; rfl
    have pl8 := parS_len o.sc (s := x)
    have s4 : ∀ y : Str, y = parS P.sc x → (Str.empty ++ ("scope " : Str) ++ x ++ (" " : Str) ++ y).length ≤ 40 := fun y hy => by rw [len_app, hy]; omega
    have ste : ∀ y : Str, y = parS P.sc x → (((w.put p (.lst ((done.map (lineS P.sc)).map .str))).put q (.lst (done.map .str))).put q (.lst (done.map .str ++ [.str x]))).put p (.lst ((done.map (lineS P.sc)).map .str ++ [.str (Str.empty ++ ("scope " : Str) ++ x ++ (" " : Str) ++ y)])) = (w.put p (.lst (((ordS P.sc (keysN P.sc) (n + 1)).map (lineS P.sc)).map .str))).put q (.lst ((ordS P.sc (keysN P.sc) (n + 1)).map .str)) := fun y hy => by
      rw [fin y hy, eN, W.put_put, W.put_comm hqp, W.put_put, List.map_append, List.map_append, List.map_append]
      rfl
    refine ⟨le_sz (by rw [s1]; omega), _, a0, le_sz (by omega), le_sz (by omega), le_sz (by omega), ?_⟩
    cases e2 : e.2 with
    | none =>
      have ey : ("-" : Str) = parS P.sc x := by unfold parS; rw [hlk, e2]
      refine ⟨le_sz (by decide), le_sz (by have := s4 _ ey; omega), ?_⟩
      refine ⟨_, atp2, by rw [List.length_map, List.length_map, ld]; exact Nat.lt_of_lt_of_le (by omega : n < 1001) (sz_nat 1001), m - 1, by omega, n + 1, _, _, _, by omega, rfl, ste _ ey⟩
    | some y =>
      have ey : y = parS P.sc x := by unfold parS; rw [hlk, e2]
      refine ⟨le_sz (by rw [ey]; omega), le_sz (by have := s4 _ ey; omega), ?_⟩
      refine ⟨_, atp2, by rw [List.length_map, List.length_map, ld]; exact Nat.lt_of_lt_of_le (by omega : n < 1001) (sz_nat 1001), m - 1, by omega, n + 1, _, _, _, by omega, rfl, ste _ ey⟩
  · have c1 : ¬ n < P.sc.length := fun z => c1 (by
      show ((((ordS P.sc (keysN P.sc) n).map D.str).length : Nat) : Int) < ((scK P.sc).length : Nat)
      rw [List.length_map, ordS_len, len_mK]
      omega)
    have e : n = P.sc.length := by omega
    subst e
    refine ⟨w.put p (.lst ((scL P.sc (keysN P.sc)).map .str)), ⟨rfl, rfl, fun a u h => ?_⟩, hq p hp⟩
    show updM (updM w.m p _) q _ a = _
    unfold updM
    have h : updM w.m p (.lst ((scL P.sc (keysN P.sc)).map .str)) a = some u := h
    by_cases ha : a = q
    · rw [ha] at h
      unfold updM at h
      rw [if_neg hqp, hqw] at h
      cases h
    · rw [if_neg ha]
      exact h
  
def sp_format_program : DSp := fun ds w Q => ∃ P, ds = [progD P] ∧ WF P ∧ Q (.str (textN P)) w
theorem ok_format_program (T : Tx K mg) (F : FnAt K mg "format_program" s_format_program ["program"]) (C_scope_lines : DCal P w K mg base 1 "scope_lines" 1 sp_scope_lines) : DCal P w K mg base 2 "format_program" 1 sp_format_program := by
  obtain ⟨f, fd, F, hm, b⟩ := F.ex
  refine ⟨f, fd, _, dfn F sc_format_program (by intro ds w Q h; first | exact h.elim | (unfold sp_format_program at h; first | (obtain ⟨rfl, _⟩ := h; rfl) | (obtain ⟨_, rfl, _⟩ := h; rfl) | (obtain ⟨_, _, rfl, _⟩ := h; rfl) | (obtain ⟨_, _, _, rfl, _⟩ := h; rfl) | (obtain ⟨_, _, _, _, rfl, _⟩ := h; rfl) | (obtain ⟨_, _, _, _, _, rfl, _⟩ := h; rfl) | (obtain ⟨_, _, _, _, _, _, rfl, _⟩ := h; rfl) | (obtain ⟨_, _, _, _, _, _, _, rfl, _⟩ := h; rfl) | (obtain ⟨_, _, _, _, _, _, _, _, rfl, _⟩ := h; rfl) | (split at h <;> first | rfl | exact h.elim))) ?_, hm, F.kp, b, rfl⟩
  intro cdv A outer s H E hr hgd
  have hu := hu_of hr
  have nd := sc_format_program.nd
  refine ⟨_, (dss_cons (ds_set (i := 1) nd (de_call (DCal.mono C_scope_lines (by decide)) hr hgd (takes_of rfl rfl rfl rfl) (da_cons (dv 0) da_nil)))
      (dss_cons (ds_for (passes_of rfl) rfl (di_tup (de_tup (da_cons (de_tup (da_cons de_str (da_cons (de_fld T.f_Program_declared (dv 0)) da_nil))) (da_cons (de_tup (da_cons de_str (da_cons (de_fld T.f_Program_targets (dv 0)) da_nil))) (da_cons (de_tup (da_cons de_str (da_cons (de_fld T.f_Program_outside (dv 0)) da_nil))) da_nil))))) (dg_tup (n := 2) rfl (dgs_cons (dg_name 2 nd) (dgs_cons (dg_name 3 nd) dgs_nil))) (dss_one (ds_expr (de_bm PySem.F.slot_list_extend PySem.F.type_list_extend md_extend (dv 1) (da_cons (de_lcG (own := [("name", 4), ("pair", 5)]) finM_ok rfl nd (di_items (dv 3)) (by kernel_rfl) (fun _ _ _ _ _ => (dg_tup (n := 2) rfl (dgs_cons (dg_name 4 nd) (dgs_cons (dg_name 5 nd) dgs_nil)))) (fun _ _ _ _ _ => dts_nil) (fun _ _ _ _ _ => (de_joined (.cons (de_fmt (dv 2)) (.cons de_str (.cons (de_fmt (dv 4)) (.cons de_str (.cons (de_fmt (de_sub hu (dv 5) de_int)) (.cons de_str (.cons (de_fmt (de_sub hu (dv 5) de_int)) .nil)))))))))) da_nil)))))
      (dss_cons (ds_expr (de_bm PySem.F.slot_list_extend PySem.F.type_list_extend md_extend (dv 1) (da_cons (de_lcG (own := [("word", 6)]) finM_ok rfl nd (di_any (de_fld T.f_Program_blocked (dv 0))) (by kernel_rfl) (fun _ _ _ _ _ => (dg_name 6 nd)) (fun _ _ _ _ _ => dts_nil) (fun _ _ _ _ _ => (de_joined (.cons de_str (.cons (de_fmt (dv 6)) .nil))))) da_nil)))
      (dss_one (ds_ret (de_fgt (de_join de_str (dv 1)))))))), ?_⟩
  intro ds w Q h
  obtain ⟨P, rfl, o, hq⟩ := h
  refine ⟨P, rfl, o, fun p hp => ?_⟩
  have dcl : ∀ (X Y Z : MO) (b : Addr), b ≠ p → w.m b = none → (((w.put p X).put b Y).put p Z).del b = w.put p Z := fun X Y Z b hb hn => by
    rw [W.put_comm hb, W.put_put]
    exact W.del_put (by rw [W.put_ne hb]; exact hn)
  refine ⟨rfl, _, rfl, sz_nat 2, rfl, _, rfl, sz_nat 2, rfl, _, rfl, sz_nat 2, sz_nat 3, ?_⟩
  obtain ⟨LT, hLT⟩ : ∃ LT, LT = [P.bn.map (entL "bind"), P.us.map (entL "use"), P.ou.map (entL "outer")] := ⟨_, rfl⟩
  obtain ⟨z1, z2, z3, z4, z5⟩ := o.sm
  refine ⟨fun i env w2 => ∃ (a2 a3 : Option D), env = [some (progD P), some (.ref p), a2, a3, none, none, none] ∧ w2 = w.put p (.lst ((scL P.sc (keysN P.sc) ++ (LT.take i).flatten).map .str)), ⟨_, _, rfl, by rw [List.take_zero, List.flatten_nil, List.append_nil]; rfl⟩, ?_, ?_⟩
  · rintro i x2 env w2 hx2 ⟨a2, a3, rfl, rfl⟩
    obtain ⟨k, t, rfl, hk, ht, hw, hl⟩ : ∃ (k : Str) (t : Tb), x2 = .tup [.str k, .dic (tbK t)] ∧ k.length ≤ 5 ∧ t.length ≤ 1000 ∧ (∀ e ∈ t, wordS e.1 = true ∧ wordS e.2.1 = true ∧ wordS e.2.2 = true) ∧ LT.take (i + 1) = LT.take i ++ [t.map (entL k)] := by
      have hx2 : [D.tup [.str "bind", .dic (tbK P.bn)], D.tup [.str "use", .dic (tbK P.us)], D.tup [.str "outer", .dic (tbK P.ou)]][i]? = some x2 := hx2
      have hi : i < 3 := (List.getElem?_eq_some_iff.mp hx2).1
      have : i = 0 ∨ i = 1 ∨ i = 2 := by omega
      rw [hLT]
      rcases this with rfl | rfl | rfl
      · exact ⟨_, P.bn, (Option.some.inj hx2).symm, by decide, z2, fun e he => ⟨(o.bwd e he).1, o.sc.wd _ (o.bwd e he).2.2, (o.bwd e he).2.1⟩, rfl⟩
      · exact ⟨_, P.us, (Option.some.inj hx2).symm, by decide, z3, fun e he => by
          obtain ⟨h1, h2, b, h3, h4⟩ := o.uwd e he
          exact ⟨h1, o.sc.wd _ h2, (o.bwd _ (lk_mem h3)).1⟩, rfl⟩
      · exact ⟨_, P.ou, (Option.some.inj hx2).symm, by decide, z4, fun e he => ⟨(o.owd e he).1, o.sc.wd _ (o.owd e he).2.2, (o.owd e he).2.1⟩, rfl⟩
    refine ⟨rfl, rfl, ⟨_, W.put_at⟩, ?_⟩
    have fl : (LT.take i).flatten.length ≤ 3000 := by
      rw [hLT]
      have : ∀ j : Nat, (([P.bn.map (entL "bind"), P.us.map (entL "use"), P.ou.map (entL "outer")] : List (List Str)).take j).flatten.length ≤ 3000 := fun j => by
        rcases j with _ | _ | _ | j <;> simp <;> omega
      exact this i
    have base : ((scL P.sc (keysN P.sc) ++ (LT.take i).flatten).map D.str).length ≤ 4000 := by
      rw [List.length_map, List.length_append]
      have : (scL P.sc (keysN P.sc)).length = P.sc.length := by unfold scL; rw [List.length_map, ordS_len]
      omega
    generalize hB : (scL P.sc (keysN P.sc) ++ (LT.take i).flatten) = BB at base ⊢
    show (ditems (tbK t)).length ≤ sizeLine ∧ _
    rw [ditems_tb]
    refine lc_mapM t (fun e => D.tup [.str e.1, pD e.2]) (fun e => .str (entL k e)) (by omega) (fun e he R hR => ?_) ?_
    · obtain ⟨w1, w2, w3⟩ := hw e he
      have l1 := word_len w1
      have l2 := word_len w2
      have l3 := word_len w3
      have s0 : (Str.empty ++ k).length ≤ 5 := by rw [len_app]; show 0 + k.length ≤ 5; omega
      have s1 : (Str.empty ++ k ++ (" " : Str)).length ≤ 6 := by rw [len_app]; show _ + 1 ≤ 6; omega
      have s2 : (Str.empty ++ k ++ (" " : Str) ++ e.1).length ≤ 14 := by rw [len_app]; omega
      have s3 : (Str.empty ++ k ++ (" " : Str) ++ e.1 ++ (" " : Str)).length ≤ 15 := by rw [len_app]; show _ + 1 ≤ 15; omega
      have s4 : (Str.empty ++ k ++ (" " : Str) ++ e.1 ++ (" " : Str) ++ e.2.1).length ≤ 23 := by rw [len_app]; omega
      have s5 : (Str.empty ++ k ++ (" " : Str) ++ e.1 ++ (" " : Str) ++ e.2.1 ++ (" " : Str)).length ≤ 24 := by rw [len_app]; show _ + 1 ≤ 24; omega
      have s6 : (Str.empty ++ k ++ (" " : Str) ++ e.1 ++ (" " : Str) ++ e.2.1 ++ (" " : Str) ++ e.2.2).length ≤ 32 := by rw [len_app]; omega
      refine ⟨rfl, rfl, le_sz (by omega), le_sz (by omega), le_sz (by omega), le_sz (by omega), le_sz (by omega), le_sz (by omega), _, rfl, le_sz (by omega), le_sz (by omega), le_sz (by omega), _, rfl, le_sz (by omega), le_sz (by omega), ?_⟩
      exact hR
    intro b hb
    have hbp : b ≠ p := fun z => by rw [z, W.put_at] at hb; cases hb
    have hbw : w.m b = none := by rw [W.put_ne hbp] at hb; exact hb
    refine ⟨hbp, BB.map D.str, _, ?_, W.put_at, ?_, ?_⟩
    · rw [W.put_ne (fun z => hbp z.symm)]
      exact W.put_at
    · rw [List.length_map (f := fun e => D.str (entL k e))]
      exact le_sz (by omega)
    rw [dcl _ _ _ b hbp hbw]
    refine ⟨_, _, rfl, ?_⟩
    rw [hl, List.flatten_append, ← hB, List.flatten_singleton, List.map_append, List.map_append, List.map_append, List.map_map, List.append_assoc]
    rfl
  rintro env w2 ⟨a2, a3, rfl, rfl⟩
  show (dSeq _ _ : DTS) _ [some (progD P), some (.ref p), a2, a3, none, none, none] (w.put p (.lst ((scL P.sc (keysN P.sc) ++ (LT.take 3).flatten).map .str)))
  have eT : scL P.sc (keysN P.sc) ++ (LT.take 3).flatten ++ P.rs.map wordL = allL P := by
    rw [hLT]
    unfold allL
    simp
  have lA := allL_count o
  have lB : ((scL P.sc (keysN P.sc) ++ (LT.take 3).flatten).map D.str).length ≤ 5000 := by
    rw [← eT, List.length_append] at lA
    rw [List.length_map]
    omega
  refine ⟨⟨_, W.put_at⟩, rfl, _, rfl, ?_⟩
  refine lc_mapM P.rs D.str (fun s => .str (wordL s)) (by omega) (fun s hs R hR => ?_) ?_
  · have l1 := word_len (o.rwd s hs)
    have s1 : (Str.empty ++ ("word " : Str)).length = 5 := rfl
    have s2 : (Str.empty ++ ("word " : Str) ++ s).length ≤ 13 := by rw [len_app, s1]; omega
    refine ⟨le_sz (by omega), le_sz (by omega), le_sz (by omega), ?_⟩
    exact hR
  intro b hb
  have hbp : b ≠ p := fun z => by rw [z, W.put_at] at hb; cases hb
  have hbw : w.m b = none := by rw [W.put_ne hbp] at hb; exact hb
  refine ⟨hbp, (scL P.sc (keysN P.sc) ++ (LT.take 3).flatten).map .str, _, ?_, W.put_at, ?_, ?_⟩
  · rw [W.put_ne (fun z => hbp z.symm)]
    exact W.put_at
  · rw [List.length_map (f := fun s => D.str (wordL s))]
    exact le_sz (by omega)
  rw [dcl _ _ _ b hbp hbw]
  have eA : (scL P.sc (keysN P.sc) ++ (LT.take 3).flatten).map D.str ++ P.rs.map (fun s => D.str (wordL s)) = (allL P).map .str := by
    rw [← eT, List.map_append (l₁ := scL P.sc (keysN P.sc) ++ (LT.take 3).flatten), List.map_map (l := P.rs)]
    rfl
  rw [eA]
  refine ⟨_, _, W.put_at, strsOf_strs _, text_fits o, ?_⟩
  refine ⟨w, ⟨rfl, rfl, fun a u h => ?_⟩, hq⟩
  have hp : w.m p = none := hp
  show updM w.m p _ a = _
  unfold updM
  rw [if_neg (fun z => by rw [z, hp] at h; cases h)]
  exact h
  
def sp__law_turned : DSp := fun ds w Q => ∃ kvs : List (Key × D), ds = [.dic kvs] ∧ (kvs.map (·.1)).Nodup ∧ Q (.dic kvs.reverse) w
theorem pairs_items : ∀ kvs : List (Key × D), pairsOf (ditems kvs) = some kvs
  | [] => rfl
  | (k, d) :: r => by
    show ((keyOf (kD k)).bind fun q => (pairsOf (ditems r)).map ((q, d) :: ·)) = _
    rw [pairs_items r]
    cases k <;> rfl
theorem ok__law_turned (T : Tx K mg) (F : FnAt K mg "_law_turned" s__law_turned ["_law_some"])  : DCal P w K mg base 1 "_law_turned" 1 sp__law_turned := by
  obtain ⟨f, fd, F, hm, b⟩ := F.ex
  refine ⟨f, fd, _, dfn F sc__law_turned (by intro ds w Q h; first | exact h.elim | (unfold sp__law_turned at h; first | (obtain ⟨rfl, _⟩ := h; rfl) | (obtain ⟨_, rfl, _⟩ := h; rfl) | (obtain ⟨_, _, rfl, _⟩ := h; rfl) | (obtain ⟨_, _, _, rfl, _⟩ := h; rfl) | (obtain ⟨_, _, _, _, rfl, _⟩ := h; rfl) | (obtain ⟨_, _, _, _, _, rfl, _⟩ := h; rfl) | (obtain ⟨_, _, _, _, _, _, rfl, _⟩ := h; rfl) | (obtain ⟨_, _, _, _, _, _, _, rfl, _⟩ := h; rfl) | (obtain ⟨_, _, _, _, _, _, _, _, rfl, _⟩ := h; rfl) | (split at h <;> first | rfl | exact h.elim))) ?_, hm, F.kp, b, rfl⟩
  intro cdv A outer s H E hr hgd
  have hu := hu_of hr
  have nd := sc__law_turned.nd
  refine ⟨_, (dss_one (ds_ret (de_callTy (cd_dict rfl) T.b_dict (da_cons (de_rev (de_list_items rfl T.b_list (dv 0))) da_nil)))), ?_⟩
  intro ds w Q h
  obtain ⟨kvs, rfl, nd, hq⟩ := h
  have e : (ditems kvs).reverse = ditems kvs.reverse := by
    unfold ditems
    rw [List.map_reverse]
  refine ⟨kvs.reverse, ?_, hq⟩
  show ∃ ps, pairsOf (ditems kvs).reverse = some ps ∧ kvs.reverse = mergeD [] ps
  refine ⟨kvs.reverse, by rw [e, pairs_items], ?_⟩
  refine (merge_new ?_).symm
  rw [List.map_reverse]
  exact (List.reverse_perm _).nodup_iff.mpr nd
  
def sp__law_scope_order : DSp := fun ds w Q => ∃ sc, ds = [.dic (scK sc)] ∧ ScOk sc ∧ sc.length ≤ 1000 ∧ Q (.lst ((ordS sc (sortT (keysN sc)) sc.length).map .str)) w
theorem ok__law_scope_order (T : Tx K mg) (F : FnAt K mg "_law_scope_order" s__law_scope_order ["_law_tree_here"])  : DCal P w K mg base 1 "_law_scope_order" 1 sp__law_scope_order := by
  obtain ⟨f, fd, F, hm, b⟩ := F.ex
  refine ⟨f, fd, _, dfn F sc__law_scope_order (by intro ds w Q h; first | exact h.elim | (unfold sp__law_scope_order at h; first | (obtain ⟨rfl, _⟩ := h; rfl) | (obtain ⟨_, rfl, _⟩ := h; rfl) | (obtain ⟨_, _, rfl, _⟩ := h; rfl) | (obtain ⟨_, _, _, rfl, _⟩ := h; rfl) | (obtain ⟨_, _, _, _, rfl, _⟩ := h; rfl) | (obtain ⟨_, _, _, _, _, rfl, _⟩ := h; rfl) | (obtain ⟨_, _, _, _, _, _, rfl, _⟩ := h; rfl) | (obtain ⟨_, _, _, _, _, _, _, rfl, _⟩ := h; rfl) | (obtain ⟨_, _, _, _, _, _, _, _, rfl, _⟩ := h; rfl) | (split at h <;> first | rfl | exact h.elim))) ?_, hm, F.kp, b, rfl⟩
  intro cdv A outer s H E hr hgd
  have hu := hu_of hr
  have nd := sc__law_scope_order.nd
  refine ⟨_, (dss_cons (ds_set (i := 1) nd (de_lcG (own := [("_law_one", 3)]) finM_ok rfl nd (di_any (dv 0)) (by kernel_rfl) (fun _ _ _ _ _ => (dg_name 3 nd)) (fun _ _ _ _ _ => (dts_one (dt_cmp od_is (de_sub hu (dv 0) (dv 3)) de_non))) (fun _ _ _ _ _ => (dv 3))))
      (dss_cons (ds_while (passes_of rfl) (dt_cmp od_lt (de_callB cd_len T.b_len (da_cons (dv 1) da_nil)) (de_callB cd_len T.b_len (da_cons (dv 0) da_nil))) (dss_cons (ds_set (i := 2) nd (de_callB (cd_sorted rfl hr.units) T.b_sorted (da_cons (de_lcG (own := [("_law_one", 3)]) finL_ok rfl nd (di_any (dv 0)) (by kernel_rfl) (fun _ _ _ _ _ => (dg_name 3 nd)) (fun _ _ _ _ _ => (dts_one (dt_w (dw_and (dt_cmp (od_notin hu) (dv 3) (dv 1)) (dw_and1 (dt_cmp (od_in hu) (de_sub hu (dv 0) (dv 3)) (dv 1))))))) (fun _ _ _ _ _ => (dv 3))) da_nil)))
      (dss_one (ds_expr (de_bm PySem.F.slot_list_append PySem.F.type_list_append md_append (dv 1) (da_cons (de_sub hu (dv 2) de_int) da_nil))))))
      (dss_one (ds_ret (de_frz (dv 1)))))), ?_⟩
  intro ds w Q h
  obtain ⟨sc, rfl, o, hl, hq⟩ := h
  have hk : ∀ s, s ∈ sortT (keysN sc) ↔ s ∈ keysN sc := fun s => mem_sortT
  obtain ⟨r0, er, hr, ef, hu⟩ := root_next o hk
  have hpos := o.pos hr
  have lkx : ∀ s ∈ keysN sc, ∃ v, lk sc s = some v ∧ valD (scK sc) (.inr s) = some (oD v) := fun s hs => by
    obtain ⟨e, he, es⟩ := List.mem_map.mp hs
    have hlk : lk sc s = some e.2 := by rw [← es]; exact lk_of_mem o.nd he
    exact ⟨e.2, hlk, by rw [valD_mK, hlk]; rfl⟩
  refine lc_filtK oD sc (rootB sc) D.str (by omega) (fun s hs R S hR hS => ?_) ?_
  · obtain ⟨v, h1, h2⟩ := lkx s hs
    refine ⟨_, _, rfl, h2, ?_⟩
    unfold rootB at hR hS
    rw [h1] at hR hS
    cases v with
    | none => exact hR rfl
    | some y => exact hS rfl
  rw [ef]
  intro p hp
  refine ⟨fun m env w2 => ∃ (n : Nat) (a2 : Option D), n + m = sc.length ∧ 1 ≤ n ∧ env = [some (.dic (scK sc)), some (.ref p), a2, none] ∧ w2 = w.put p (.lst ((ordS sc (sortT (keysN sc)) n).map .str)), ⟨sc.length - 1, 1, _, by omega, Nat.le_refl _, rfl, ?_⟩, ?_⟩
  · show w.put p _ = w.put p (.lst ((([] : List Str) ++ [nextS sc (sortT (keysN sc)) []]).map .str))
    rw [er]
    rfl
  rintro m env w2 ⟨n, a2, hm, hn1, rfl, rfl⟩
  have dk := ordS_ok o hk n (by omega)
  have hri : r0 ∈ ordS sc (sortT (keysN sc)) n := by rw [← er]; exact root_in hn1
  refine .inl ⟨_, W.put_at, ?_⟩
  refine ifd (fun c1 => ?_) (fun c1 => ?_)
  · have c1 : n < sc.length := by
      have c1 : ((((ordS sc (sortT (keysN sc)) n).map D.str).length : Nat) : Int) < ((scK sc).length : Nat) := c1
      rw [List.length_map, ordS_len, len_mK] at c1
      omega
    obtain ⟨x, r, ef2, ex, hx, hrd⟩ := next_ready o hk dk (by rw [ordS_len]; exact c1)
    have eN : ordS sc (sortT (keysN sc)) (n + 1) = ordS sc (sortT (keysN sc)) n ++ [x] := by
      show ordS sc (sortT (keysN sc)) n ++ [nextS sc (sortT (keysN sc)) (ordS sc (sortT (keysN sc)) n)] = _
      rw [ex]
    have ld : (ordS sc (sortT (keysN sc)) n).length = n := ordS_len _ _ _
    generalize hdn : ordS sc (sortT (keysN sc)) n = done at dk ex ef2 hrd hri eN ld ⊢
    refine lc_filtK oD sc (readyB sc done) D.str (by omega) (fun s hs R S hR hS => ?_) ?_
    · obtain ⟨v, h1, h2⟩ := lkx s hs
      refine .inl ⟨_, W.put_at, by rw [scal_strs]; rfl, ?_⟩
      rw [memS_str]
      unfold readyB at hR hS
      rw [h1] at hR hS
      refine ifne (fun c => ?_) (fun c => hS (by rw [c]; rfl))
      rw [c] at hR hS
      refine ⟨_, _, rfl, h2, ?_⟩
      cases v with
      | none =>
        have := hu s h1
        rw [this] at c
        exact absurd hri (of_decide_eq_false c)
      | some y =>
        refine .inl ⟨_, W.put_at, by rw [scal_strs]; rfl, ?_⟩
        rw [show oD (some y) = D.str y from rfl, memS_str]
        exact ify (fun c2 => hR c2) (fun c2 => hS c2)
    refine ⟨_, strsOf_strs _, ?_⟩
    rw [filter_sort, ef2]
    refine ⟨⟨_, W.put_at⟩, _, atI_of (d := 0) (by decide) rfl, _, W.put_at, by rw [List.length_map, ld]; exact Nat.lt_of_lt_of_le (by omega : n < 1001) (sz_nat 1001), ?_⟩
    refine ⟨m - 1, by omega, n + 1, _, by omega, by omega, rfl, ?_⟩
    rw [eN, List.map_append]
    exact W.put_put
  · have c1 : ¬ n < sc.length := fun z => c1 (by
      show ((((ordS sc (sortT (keysN sc)) n).map D.str).length : Nat) : Int) < ((scK sc).length : Nat)
      rw [List.length_map, ordS_len, len_mK]
      omega)
    have e : n = sc.length := by omega
    subst e
    refine ⟨_, W.put_at, ?_⟩
    have hp : w.m p = none := hp
    have ed : (w.put p (.lst ((ordS sc (sortT (keysN sc)) sc.length).map .str))).del p = w := W.del_put hp
    show Q _ ((w.put p (.lst ((ordS sc (sortT (keysN sc)) sc.length).map .str))).del p)
    rw [ed]
    exact hq
  
def sp__law_lines : DSp := fun ds w Q => ∃ P r, ds = [.tup [.dic (scK P.sc), .dic (tbK P.bn), .dic (tbK P.us), .dic (tbK P.ou), r]] ∧ WF P ∧ wordsOf r P.rs ∧ Q (.lst ((allL (sortP P)).map .str)) w
def dL (l : List Str) : D := .lst (l.map .str)
theorem rowsS_le {P : Parts} (o : WF P) : ∀ l ∈ rowsS P, l.length ≤ 4 ∧ ∀ s ∈ l, s.length ≤ 8 := fun l hl => by
  have ent : ∀ (k : Str) (t : Tb), k.length ≤ 8 → (∀ e ∈ t, wordS e.1 = true ∧ wordS e.2.1 = true ∧ wordS e.2.2 = true) → ∀ s, (rowE k t s).length ≤ 4 ∧ ∀ x ∈ rowE k t s, x.length ≤ 8 := fun k t hk h s => by
    unfold rowE
    split
    · rename_i p e
      obtain ⟨h1, h2, h3⟩ := h _ (lk_mem e)
      refine ⟨Nat.le_refl _, fun x hx => ?_⟩
      simp only [List.mem_cons, List.not_mem_nil, or_false] at hx
      rcases hx with rfl | rfl | rfl | rfl
      · exact hk
      · exact word_len h1
      · exact word_len h2
      · exact word_len h3
    · exact ⟨Nat.zero_le _, fun x hx => nomatch hx⟩
  unfold rowsS at hl
  rcases List.mem_append.mp hl with hl | hl
  · rcases List.mem_append.mp hl with hl | hl
    · rcases List.mem_append.mp hl with hl | hl
      · rcases List.mem_append.mp hl with hl | hl
        · obtain ⟨s, hs, rfl⟩ := List.mem_map.mp hl
          refine ⟨by show 3 ≤ 4; decide, fun x hx => ?_⟩
          unfold scopeR at hx
          simp only [List.mem_cons, List.not_mem_nil, or_false] at hx
          rcases hx with rfl | rfl | rfl
          · decide
          · exact word_len (o.sc.wd _ ((ordS_ok o.sc (fun _ => mem_sortT) _ (Nat.le_refl _)).ks _ hs))
          · exact parS_len o.sc
        · obtain ⟨s, hs, rfl⟩ := List.mem_map.mp hl
          exact ent _ _ (by decide) (fun e he => ⟨(o.bwd e he).1, o.sc.wd _ (o.bwd e he).2.2, (o.bwd e he).2.1⟩) s
      · obtain ⟨s, hs, rfl⟩ := List.mem_map.mp hl
        refine ent _ _ (by decide) (fun e he => ?_) s
        obtain ⟨h1, h2, b, h3, h4⟩ := o.uwd e he
        exact ⟨h1, o.sc.wd _ h2, (o.bwd _ (lk_mem h3)).1⟩
    · obtain ⟨s, hs, rfl⟩ := List.mem_map.mp hl
      exact ent _ _ (by decide) (fun e he => ⟨(o.owd e he).1, o.sc.wd _ (o.owd e he).2.2, (o.owd e he).2.1⟩) s
  · obtain ⟨s, hs, rfl⟩ := List.mem_map.mp hl
    refine ⟨by show 2 ≤ 4; decide, fun x hx => ?_⟩
    unfold wordR at hx
    simp only [List.mem_cons, List.not_mem_nil, or_false] at hx
    rcases hx with rfl | rfl
    · decide
    · exact word_len (o.rwd _ (nubT_mem.mp (mem_sortT.mp hs)))
theorem ok__law_lines (T : Tx K mg) (F : FnAt K mg "_law_lines" s__law_lines ["_law_parts_here"]) (C__law_scope_order : DCal P w K mg base 1 "_law_scope_order" 1 sp__law_scope_order) : DCal P w K mg base 2 "_law_lines" 1 sp__law_lines := by
  obtain ⟨f, fd, F, hm, b⟩ := F.ex
  refine ⟨f, fd, _, dfn F sc__law_lines (by intro ds w Q h; first | exact h.elim | (unfold sp__law_lines at h; first | (obtain ⟨rfl, _⟩ := h; rfl) | (obtain ⟨_, rfl, _⟩ := h; rfl) | (obtain ⟨_, _, rfl, _⟩ := h; rfl) | (obtain ⟨_, _, _, rfl, _⟩ := h; rfl) | (obtain ⟨_, _, _, _, rfl, _⟩ := h; rfl) | (obtain ⟨_, _, _, _, _, rfl, _⟩ := h; rfl) | (obtain ⟨_, _, _, _, _, _, rfl, _⟩ := h; rfl) | (obtain ⟨_, _, _, _, _, _, _, rfl, _⟩ := h; rfl) | (obtain ⟨_, _, _, _, _, _, _, _, rfl, _⟩ := h; rfl) | (split at h <;> first | rfl | exact h.elim))) ?_, hm, F.kp, b, rfl⟩
  intro cdv A outer s H E hr hgd
  have hu := hu_of hr
  have nd := sc__law_lines.nd
  refine ⟨_, (dss_cons (ds_asg (dv 0) (dg_tup (n := 5) rfl (dgs_cons (dg_name 1 nd) (dgs_cons (dg_name 2 nd) (dgs_cons (dg_name 3 nd) (dgs_cons (dg_name 4 nd) (dgs_cons (dg_name 5 nd) dgs_nil)))))))
      (dss_cons (ds_setLcG (i := 6) (own := [("_law_one", 7)]) finL_ok rfl nd (di_any (de_call (DCal.mono C__law_scope_order (by decide)) hr hgd (takes_of rfl rfl rfl rfl) (da_cons (dv 1) da_nil))) (by kernel_rfl) (fun _ _ _ _ _ => (dg_name 7 nd)) (fun _ _ _ _ _ => dts_nil) (fun _ _ _ _ _ => (de_lst (da_cons de_str (da_cons (dv 7) (da_cons (de_if (dt_cmp od_is (de_sub hu (dv 1) (dv 7)) de_non) de_str (de_sub hu (dv 1) (dv 7))) da_nil))))))
      (dss_cons (ds_set (i := 6) nd (de_op od_add (dv 6) (de_lcG (own := [("_law_one", 7)]) finL_ok rfl nd (di_any (de_callB (cd_sorted rfl hr.units) T.b_sorted (da_cons (dv 2) da_nil))) (by kernel_rfl) (fun _ _ _ _ _ => (dg_name 7 nd)) (fun _ _ _ _ _ => dts_nil) (fun _ _ _ _ _ => (de_lst (da_cons de_str (da_cons (dv 7) (da_cons (de_sub hu (de_sub hu (dv 2) (dv 7)) de_int) (da_cons (de_sub hu (de_sub hu (dv 2) (dv 7)) de_int) da_nil)))))))))
      (dss_cons (ds_set (i := 6) nd (de_op od_add (dv 6) (de_lcG (own := [("_law_one", 7)]) finL_ok rfl nd (di_any (de_callB (cd_sorted rfl hr.units) T.b_sorted (da_cons (dv 3) da_nil))) (by kernel_rfl) (fun _ _ _ _ _ => (dg_name 7 nd)) (fun _ _ _ _ _ => dts_nil) (fun _ _ _ _ _ => (de_lst (da_cons de_str (da_cons (dv 7) (da_cons (de_sub hu (de_sub hu (dv 3) (dv 7)) de_int) (da_cons (de_sub hu (de_sub hu (dv 3) (dv 7)) de_int) da_nil)))))))))
      (dss_cons (ds_set (i := 6) nd (de_op od_add (dv 6) (de_lcG (own := [("_law_one", 7)]) finL_ok rfl nd (di_any (de_callB (cd_sorted rfl hr.units) T.b_sorted (da_cons (dv 4) da_nil))) (by kernel_rfl) (fun _ _ _ _ _ => (dg_name 7 nd)) (fun _ _ _ _ _ => dts_nil) (fun _ _ _ _ _ => (de_lst (da_cons de_str (da_cons (dv 7) (da_cons (de_sub hu (de_sub hu (dv 4) (dv 7)) de_int) (da_cons (de_sub hu (de_sub hu (dv 4) (dv 7)) de_int) da_nil)))))))))
      (dss_one (ds_ret (de_lcG (own := [("_law_line", 8)]) finL_ok rfl nd (di_any (de_op od_add (dv 6) (de_lcG (own := [("_law_one", 7)]) finL_ok rfl nd (di_any (de_sortSet rfl hr.units T.b_sorted T.b_set (dv 5))) (by kernel_rfl) (fun _ _ _ _ _ => (dg_name 7 nd)) (fun _ _ _ _ _ => dts_nil) (fun _ _ _ _ _ => (de_lst (da_cons de_str (da_cons (dv 7) da_nil))))))) (by kernel_rfl) (fun _ _ _ _ _ => (dg_name 8 nd)) (fun _ _ _ _ _ => dts_nil) (fun _ _ _ _ _ => (de_join de_str (dv 8))))))))))), ?_⟩
  intro ds w Q h
  obtain ⟨P, r, rfl, o, hr, hq⟩ := h
  obtain ⟨z1, z2, z3, z4, z5⟩ := o.sm
  refine ⟨rfl, rfl, ?_⟩
  refine ⟨P.sc, rfl, o.sc, z1, ?_⟩
  have lO : (ordS P.sc (sortT (keysN P.sc)) P.sc.length).length = P.sc.length := ordS_len _ _ _
  refine lc_mapM (ordS P.sc (sortT (keysN P.sc)) P.sc.length) D.str (fun s => dL (scopeR P.sc s)) (by rw [lO]; omega) (fun s hs R hR => ?_) ?_
  · have hk := (ordS_ok o.sc (fun _ => mem_sortT) _ (Nat.le_refl _)).ks s hs
    obtain ⟨e, he, es⟩ := List.mem_map.mp hk
    have hlk : lk P.sc s = some e.2 := by rw [← es]; exact lk_of_mem o.sc.nd he
    have hv : valD (scK P.sc) (.inr s) = some (oD e.2) := by rw [valD_mK, hlk]; rfl
    have er : scopeR P.sc s = [("scope" : Str), s, (match e.2 with | some p => p | _ => ("-" : Str))] := by unfold scopeR parS; rw [hlk]; cases e.2 <;> rfl
    unfold dL at hR
    rw [er] at hR
    refine ⟨_, _, rfl, hv, ?_⟩
    cases e2 : e.2 with
    | none =>
      rw [e2] at hR
      exact ⟨sz_nat 3, hR⟩
    | some y =>
      rw [e2] at hR hv
      exact ⟨_, _, rfl, hv, sz_nat 3, hR⟩
  obtain ⟨W0, hW0⟩ : ∃ W, W = (ordS P.sc (sortT (keysN P.sc)) P.sc.length).map fun s => dL (scopeR P.sc s) := ⟨_, rfl⟩
  have l0 : W0.length ≤ 1000 := by rw [hW0, List.length_map, lO]; omega
  rw [← hW0]
  refine ⟨keysN P.bn, mK_keys pD P.bn, ?_⟩
  refine lc_mapM (sortT (keysN P.bn)) D.str (fun s => dL (rowE "bind" P.bn s)) (by rw [sortT_len, len_keysN]; omega) (fun s hs R hR => ?_) ?_
  · obtain ⟨e, he, es⟩ := List.mem_map.mp (mem_sortT.mp hs)
    have hlk : lk P.bn s = some e.2 := by rw [← es]; exact lk_of_mem o.bnd he
    have hv : valD (tbK P.bn) (.inr s) = some (pD e.2) := by rw [valD_mK, hlk]; rfl
    have er : rowE "bind" P.bn s = [("bind" : Str), s, e.2.1, e.2.2] := by unfold rowE; rw [hlk]
    unfold dL at hR
    rw [er] at hR
    exact ⟨_, _, rfl, hv, _, rfl, _, _, rfl, hv, _, rfl, sz_nat 4, hR⟩
  obtain ⟨W1, hW1⟩ : ∃ W, W = W0 ++ (sortT (keysN P.bn)).map fun s => dL (rowE "bind" P.bn s) := ⟨_, rfl⟩
  have lX : ((sortT (keysN P.bn)).map fun s => dL (rowE "bind" P.bn s)).length ≤ 1000 := by rw [List.length_map, sortT_len, len_keysN]; omega
  have l1 : W1.length ≤ 2000 := by rw [hW1, List.length_append]; omega
  refine ⟨le_sz (by omega), ?_⟩
  rw [← hW1]
  clear lX
  refine ⟨keysN P.us, mK_keys pD P.us, ?_⟩
  refine lc_mapM (sortT (keysN P.us)) D.str (fun s => dL (rowE "use" P.us s)) (by rw [sortT_len, len_keysN]; omega) (fun s hs R hR => ?_) ?_
  · obtain ⟨e, he, es⟩ := List.mem_map.mp (mem_sortT.mp hs)
    have hlk : lk P.us s = some e.2 := by rw [← es]; exact lk_of_mem o.usd he
    have hv : valD (tbK P.us) (.inr s) = some (pD e.2) := by rw [valD_mK, hlk]; rfl
    have er : rowE "use" P.us s = [("use" : Str), s, e.2.1, e.2.2] := by unfold rowE; rw [hlk]
    unfold dL at hR
    rw [er] at hR
    exact ⟨_, _, rfl, hv, _, rfl, _, _, rfl, hv, _, rfl, sz_nat 4, hR⟩
  obtain ⟨W2, hW2⟩ : ∃ W, W = W1 ++ (sortT (keysN P.us)).map fun s => dL (rowE "use" P.us s) := ⟨_, rfl⟩
  have lX : ((sortT (keysN P.us)).map fun s => dL (rowE "use" P.us s)).length ≤ 1000 := by rw [List.length_map, sortT_len, len_keysN]; omega
  have l2 : W2.length ≤ 3000 := by rw [hW2, List.length_append]; omega
  refine ⟨le_sz (by omega), ?_⟩
  rw [← hW2]
  clear lX
  refine ⟨keysN P.ou, mK_keys pD P.ou, ?_⟩
  refine lc_mapM (sortT (keysN P.ou)) D.str (fun s => dL (rowE "outer" P.ou s)) (by rw [sortT_len, len_keysN]; omega) (fun s hs R hR => ?_) ?_
  · obtain ⟨e, he, es⟩ := List.mem_map.mp (mem_sortT.mp hs)
    have hlk : lk P.ou s = some e.2 := by rw [← es]; exact lk_of_mem o.oud he
    have hv : valD (tbK P.ou) (.inr s) = some (pD e.2) := by rw [valD_mK, hlk]; rfl
    have er : rowE "outer" P.ou s = [("outer" : Str), s, e.2.1, e.2.2] := by unfold rowE; rw [hlk]
    unfold dL at hR
    rw [er] at hR
    exact ⟨_, _, rfl, hv, _, rfl, _, _, rfl, hv, _, rfl, sz_nat 4, hR⟩
  obtain ⟨W3, hW3⟩ : ∃ W, W = W2 ++ (sortT (keysN P.ou)).map fun s => dL (rowE "outer" P.ou s) := ⟨_, rfl⟩
  have lX : ((sortT (keysN P.ou)).map fun s => dL (rowE "outer" P.ou s)).length ≤ 1000 := by rw [List.length_map, sortT_len, len_keysN]; omega
  have l3 : W3.length ≤ 4000 := by rw [hW3, List.length_append]; omega
  refine ⟨le_sz (by omega), ?_⟩
  rw [← hW3]
  clear lX
  refine ⟨P.rs, words_in hr, by unfold scanBound; omega, ?_⟩
  have lN : (sortT (nubT P.rs)).length ≤ 1000 := by rw [sortT_len]; have := nubT_len P.rs; omega
  refine lc_mapM (sortT (nubT P.rs)) D.str (fun s => dL (wordR s)) (by omega) (fun s hs R hR => ⟨sz_nat 2, hR⟩) ?_
  have lX : ((sortT (nubT P.rs)).map fun s => dL (wordR s)).length ≤ 1000 := by rw [List.length_map]; exact lN
  refine ⟨le_sz (by omega), ?_⟩
  have eR : W3 ++ (sortT (nubT P.rs)).map (fun s => dL (wordR s)) = (rowsS P).map dL := by
    rw [hW3, hW2, hW1, hW0]
    unfold rowsS
    rw [List.map_append, List.map_append, List.map_append, List.map_append, List.map_map, List.map_map, List.map_map, List.map_map, List.map_map]
    rfl
  have lR : (rowsS P).length ≤ 6000 := by
    have : ((rowsS P).map dL).length = (rowsS P).length := List.length_map _
    rw [← eR, List.length_append] at this
    omega
  rw [eR]
  refine lc_mapM (rowsS P) dL (fun l => .str (Txt.join " " l)) (by omega) (fun l hl R hR => ?_) ?_
  · obtain ⟨h1, h2⟩ := rowsS_le o l hl
    exact ⟨l, strsOf_strs l, sum_strs h2 h1, hR⟩
  rw [← rows_lines o, List.map_map] at hq
  exact hq
  
abbrev sp__law_next : DSp := spNextU
theorem ok__law_next (T : Tx K mg) (F : FnAt K mg "_law_next" s__law_next ["_law_pen_here"])  : DCal P w K mg base 1 "_law_next" 1 sp__law_next := by
  obtain ⟨f, fd, F, hm, b⟩ := F.ex
  refine ⟨f, fd, _, dfn F sc__law_next (by intro ds w Q h; first | exact h.elim | (unfold sp__law_next spNextU at h; first | (obtain ⟨rfl, _⟩ := h; rfl) | (obtain ⟨_, rfl, _⟩ := h; rfl) | (obtain ⟨_, _, rfl, _⟩ := h; rfl) | (obtain ⟨_, _, _, rfl, _⟩ := h; rfl) | (obtain ⟨_, _, _, _, rfl, _⟩ := h; rfl) | (obtain ⟨_, _, _, _, _, rfl, _⟩ := h; rfl) | (obtain ⟨_, _, _, _, _, _, rfl, _⟩ := h; rfl) | (obtain ⟨_, _, _, _, _, _, _, rfl, _⟩ := h; rfl) | (obtain ⟨_, _, _, _, _, _, _, _, rfl, _⟩ := h; rfl) | (split at h <;> first | rfl | exact h.elim))) ?_, hm, F.kp, b, rfl⟩
  intro cdv A outer s H E hr hgd
  have hu := hu_of hr
  have nd := sc__law_next.nd
  refine ⟨_, (dss_cons (ds_set (i := 1) nd (de_sub hu (dv 0) de_int))
      (dss_cons (ds_asg (de_op od_add (dv 1) de_int) (dg_sub hu (dv 0) de_int))
      (dss_cons (ds_set (i := 2) nd (de_op od_add (de_op od_mul de_int (dv 1)) de_int))
      (dss_cons (ds_if (dt_cmp od_gt (de_callB cd_len T.b_len (da_cons (de_sub hu (dv 0) de_int) da_nil)) de_int) (dss_one (ds_set (i := 2) nd (de_sub hu (de_sub hu (dv 0) de_int) (de_op od_mod (dv 1) (de_callB cd_len T.b_len (da_cons (de_sub hu (dv 0) de_int) da_nil)))))) dss_nil)
      (dss_cons (ds_if (dt_w (dw_and (dt_cmp od_lt (dv 1) (de_callB cd_len T.b_len (da_cons (de_sub hu (dv 0) de_int) da_nil))) (dw_and1 (dt_cmp od_ge (dv 2) (de_op od_pow de_int de_int))))) (dss_one (ds_ret (dv 2))) dss_nil)
      (dss_cons (ds_set (i := 3) nd (de_op od_mod (de_op od_pow (de_op od_add (de_op od_add (de_op od_mul (de_op od_mod (dv 2) de_int) (de_op od_add (dv 1) de_int)) (de_op od_mul de_int (dv 1))) de_int) de_int) de_int))
      (dss_cons (ds_set (i := 4) nd (de_op od_mod (de_op od_pow (de_op od_add (de_op od_add (de_op od_mul (dv 3) (de_op od_add (dv 1) de_int)) (de_op od_mod (dv 2) de_int)) de_int) de_int) de_int))
      (dss_cons (ds_set (i := 5) nd (de_op od_mod (de_op od_add (de_op od_add (de_op od_mul (dv 4) (dv 4)) (dv 3)) (de_op od_mul de_int (dv 1))) de_int))
      (dss_one (ds_ret (de_op od_add (de_op od_mul (de_op od_add (de_op od_mul (dv 5) de_int) (dv 4)) de_int) (dv 3)))))))))))), ?_⟩
  intro ds w Q h
  unfold sp__law_next spNextU at h
  split at h
  · rename_i p
    obtain ⟨cs, ns, i, r, hp, hi, hl, h0, h1, hr0, kk⟩ := h
    refine Or.inl ⟨_, 1, .int i, hp, rfl, rfl, ?_⟩
    refine Or.inl ⟨_, 1, 1, hp, rfl, rfl, ?_⟩
    have hp1 : (w.put p (penL cs (i + 1) r)).m p = some (penL cs (i + 1) r) := W.put_at
    have fin : ∀ v : Int, 0 ≤ v → Q (.int v) (w.put p (penL cs (i + 1) r)) := fun v hv => kk v (i + 1) hv (by omega) (by omega)
    refine ⟨cmul_l, ?_⟩
    refine Or.inl ⟨_, 0, .lst cs, hp1, rfl, rfl, ?_⟩
    refine ifd (fun c1 => ?g1) (fun c1 => ?g2)
    case' g1 =>
      refine Or.inl ⟨_, 0, .lst cs, hp1, rfl, rfl, ?_⟩
      refine Or.inl ⟨_, 0, .lst cs, hp1, rfl, rfl, ?_⟩
      have m := mod_b i cs.length c1
      obtain ⟨d, e1, e2⟩ := atI_mem (xs := cs) m.1 m.2
      obtain ⟨c, rfl⟩ := ints_mem hi e2
      refine ⟨c1, _, e1, ?_⟩
    case' g2 => generalize 31 * i + 17 = c
    all_goals
      refine Or.inl ⟨_, 0, .lst cs, hp1, rfl, rfl, ?_⟩
      refine ifd (fun c2 => ?_) (fun c2 => ?_)
      · refine ⟨⟨by decide, by decide, by decide⟩, ?_⟩
        refine ifd (fun c3 => ?_) (fun c3 => ?_)
        · exact fin c (Int.le_trans (by decide) c3)
        · exact ⟨by decide, cmul_mod, cmul_l, cp1 h0 h1, by decide, cmul_mod, by decide, cp2 h0 h1, by decide, cmul_mod, cmul_l, by decide, cmul_mod, .inr ⟨by decide, by decide⟩, fin _ nn_next⟩
      · exact ⟨by decide, cmul_mod, cmul_l, cp1 h0 h1, by decide, cmul_mod, by decide, cp2 h0 h1, by decide, cmul_mod, cmul_l, by decide, cmul_mod, .inr ⟨by decide, by decide⟩, fin _ nn_next⟩
  · exact h.elim
  
abbrev sp__law_draw : DSp := spDraw
theorem oku__law_draw (T : Tx K mg) (F : FnAt K mg "_law_draw" s__law_draw ["_law_pen_here", "_law_below"]) (C__law_next : DCal P w K mg base 1 "_law_next" 1 sp__law_next) : DCal P w K mg base 2 "_law_draw" 2 spDrawU := by
  obtain ⟨f, fd, F, hm, b⟩ := F.ex
  refine ⟨f, fd, _, dfn F sc__law_draw (by intro ds w Q h; first | exact h.elim | (unfold spDrawU at h; first | (obtain ⟨rfl, _⟩ := h; rfl) | (obtain ⟨_, rfl, _⟩ := h; rfl) | (obtain ⟨_, _, rfl, _⟩ := h; rfl) | (obtain ⟨_, _, _, rfl, _⟩ := h; rfl) | (obtain ⟨_, _, _, _, rfl, _⟩ := h; rfl) | (obtain ⟨_, _, _, _, _, rfl, _⟩ := h; rfl) | (obtain ⟨_, _, _, _, _, _, rfl, _⟩ := h; rfl) | (obtain ⟨_, _, _, _, _, _, _, rfl, _⟩ := h; rfl) | (obtain ⟨_, _, _, _, _, _, _, _, rfl, _⟩ := h; rfl) | (split at h <;> first | rfl | exact h.elim))) ?_, hm, F.kp, b, rfl⟩
  intro cdv A outer s H E hr hgd
  have hu := hu_of hr
  have nd := sc__law_draw.nd
  refine ⟨_, (dss_cons (ds_if (dt_cmp od_lt (de_sub hu (dv 0) de_int) (dv 1)) (dss_one (ds_asg (de_call (DCal.mono C__law_next (by decide)) hr hgd (takes_of rfl rfl rfl rfl) (da_cons (dv 0) da_nil)) (dg_sub hu (dv 0) de_int))) dss_nil)
      (dss_cons (ds_set (i := 2) nd (de_op od_mod (de_sub hu (dv 0) de_int) (dv 1)))
      (dss_cons (ds_asg (de_op od_fdiv (de_sub hu (dv 0) de_int) (dv 1)) (dg_sub hu (dv 0) de_int))
      (dss_one (ds_ret (dv 2)))))), ?_⟩
  intro ds w Q h
  unfold spDrawU at h
  split at h
  · rename_i p b
    obtain ⟨cs, ns, i, r, hp, hi, hl, h0, h1, hr0, hb0, hb1, kk⟩ := h
    refine Or.inl ⟨_, 2, .int r, hp, rfl, rfl, ?_⟩
    refine ifd (fun c1 => ?_) (fun c1 => ?_)
    · refine ⟨cs, ns, i, r, hp, hi, hl, h0, h1, hr0, fun v i' hv hi0 hi1 => ?_⟩
      have hp1 : (w.put p (penL cs i' r)).m p = some (penL cs i' r) := W.put_at
      refine Or.inl ⟨_, 2, 2, hp1, rfl, rfl, ?_⟩
      have hp2 : ((w.put p (penL cs i' r)).put p (penL cs i' v)).m p = some (penL cs i' v) := W.put_at
      refine Or.inl ⟨_, 2, .int v, hp2, rfl, rfl, ?_⟩
      have m := mod_b v b hb0
      refine ⟨hb0, ?_⟩
      refine Or.inl ⟨_, 2, .int v, hp2, rfl, rfl, ?_⟩
      refine ⟨⟨hb0, hb1⟩, ?_⟩
      refine Or.inl ⟨_, 2, 2, hp2, rfl, rfl, ?_⟩
      have z := kk (v % b) i' (v / b) m.1 m.2 hi0 hi1 (Int.ediv_nonneg hv (by omega))
      have e : ((w.put p (penL cs i' r)).put p (penL cs i' v)).put p (penL cs i' (v / b)) = w.put p (penL cs i' (v / b)) := by
        rw [W.put_put, W.put_put]
      rw [← e] at z
      exact z
    · refine Or.inl ⟨_, 2, .int r, hp, rfl, rfl, ?_⟩
      have m := mod_b r b hb0
      refine ⟨hb0, ?_⟩
      refine Or.inl ⟨_, 2, .int r, hp, rfl, rfl, ?_⟩
      refine ⟨⟨hb0, hb1⟩, ?_⟩
      refine Or.inl ⟨_, 2, 2, hp, rfl, rfl, ?_⟩
      exact kk (r % b) i (r / b) m.1 m.2 h0 (by omega) (Int.ediv_nonneg hr0 (by omega))
  · exact h.elim
  
theorem ok__law_draw (T : Tx K mg) (F : FnAt K mg "_law_draw" s__law_draw ["_law_pen_here", "_law_below"]) (C__law_next : DCal P w K mg base 1 "_law_next" 1 sp__law_next) : DCal P w K mg base 2 "_law_draw" 2 sp__law_draw := (oku__law_draw T F C__law_next).imp fun _ _ _ _ => draw_pack
def sp__law_outer : DSp := fun ds w Q => ∃ (sc : Sc), ds = [.pen, .dic (scK sc)] ∧ 1 ≤ sc.length ∧ sc.length ≤ 1000 ∧ w.n + 11 < 2 ^ 31 ∧ ∀ ou j, OuDr sc ou → j ≤ 11 → Q (.dic (tbK ou)) (w.tick j)
theorem ok__law_outer (T : Tx K mg) (F : FnAt K mg "_law_outer" s__law_outer ["_law_pen_here", "_law_tree_here"]) (C__law_draw : DCal P w K mg base 2 "_law_draw" 2 sp__law_draw) : DCal P w K mg base 3 "_law_outer" 2 sp__law_outer := by
  obtain ⟨f, fd, F, hm, b⟩ := F.ex
  refine ⟨f, fd, _, dfn F sc__law_outer (by intro ds w Q h; first | exact h.elim | (unfold sp__law_outer at h; first | (obtain ⟨rfl, _⟩ := h; rfl) | (obtain ⟨_, rfl, _⟩ := h; rfl) | (obtain ⟨_, _, rfl, _⟩ := h; rfl) | (obtain ⟨_, _, _, rfl, _⟩ := h; rfl) | (obtain ⟨_, _, _, _, rfl, _⟩ := h; rfl) | (obtain ⟨_, _, _, _, _, rfl, _⟩ := h; rfl) | (obtain ⟨_, _, _, _, _, _, rfl, _⟩ := h; rfl) | (obtain ⟨_, _, _, _, _, _, _, rfl, _⟩ := h; rfl) | (obtain ⟨_, _, _, _, _, _, _, _, rfl, _⟩ := h; rfl) | (split at h <;> first | rfl | exact h.elim))) ?_, hm, F.kp, b, rfl⟩
  intro cdv A outer s H E hr hgd
  have hu := hu_of hr
  have nd := sc__law_outer.nd
  refine ⟨_, (dss_cons (ds_set (i := 2) nd de_dicM)
      (dss_cons (ds_for (passes_of rfl) rfl (di_any (de_slice (de_lst (da_cons de_str (da_cons de_str (da_cons de_str (da_cons de_str (da_cons de_str da_nil)))))) do_none (do_some (de_sub hu (de_lst (da_cons de_int (da_cons de_int (da_cons de_int (da_cons de_int (da_cons de_int (da_cons de_int da_nil))))))) (de_call (DCal.mono C__law_draw (by decide)) hr hgd (takes_of rfl rfl rfl rfl) (da_cons (dv 0) (da_cons de_int da_nil))))))) (dg_name 3 nd) (dss_cons (ds_set (i := 4) nd (de_sub hu (de_lst (da_cons de_str (da_cons de_str (da_cons de_str (da_cons de_str (da_cons de_str (da_cons de_str da_nil))))))) (de_call (DCal.mono C__law_draw (by decide)) hr hgd (takes_unl (takes_of rfl rfl rfl rfl)) (da_cons (dv 0) (da_cons de_int da_nil)))))
      (dss_one (ds_asg (de_tup (da_cons (de_sub hu (de_callTy (cd_list rfl) T.b_list (da_cons (dv 1) da_nil)) (de_call (DCal.mono C__law_draw (by decide)) hr hgd (takes_unl (takes_of rfl rfl rfl rfl)) (da_cons (dv 0) (da_cons (de_callB cd_len T.b_len (da_cons (dv 1) da_nil)) da_nil)))) (da_cons (dv 4) da_nil))) (dg_sub hu (dv 2) (dv 3))))))
      (dss_one (ds_ret (de_frz (dv 2)))))), ?_⟩
  intro ds w Q h
  obtain ⟨sc, rfl, l1, l2, hn, hq⟩ := h
  have hkl : (keysN sc).length = sc.length := len_keysN sc
  have hlen : (scK sc).length = sc.length := len_mK _ _
  refine fun p hp => ?_
  refine ⟨sz_nat 5, sz_nat 6, by decide, by decide, by show w.n < 2 ^ 31; omega, fun d d0 d1 => ?_⟩
  obtain ⟨k, hk, ek⟩ := six d0 d1
  refine ⟨_, ek, ?_⟩
  have ecut : DL.cutD (outN.map D.str) none (some (k : Int)) = (outN.map D.str).take k := by rw [cut_to (by omega)]; rfl
  refine ⟨fun i env w2 => ∃ (a3 a4 : Option D) (j : Nat) (ou : Tb), env = [some .pen, some (.dic (scK sc)), some (.ref p), a3, a4] ∧ w2 = (w.tick j).put p (.dic (tbK ou)) ∧ OuDr sc ou ∧ keysN ou = outN.take i ∧ j ≤ 1 + 2 * i,
    ⟨none, none, 1, [], rfl, rfl, ⟨by simp [keysN], fun s h => (by cases h), fun e h => (by cases h)⟩, rfl, by omega⟩, ?_, ?_⟩
  · rintro i x env w2 hx ⟨a3, a4, j, ou, rfl, rfl, ho, hk2, hj⟩
    have hx : (DL.cutD (outN.map D.str) none (some (k : Int)))[i]? = some x := hx
    rw [ecut] at hx
    have hi : i < k ∧ i < 5 := by
      have := (List.getElem?_eq_some_iff.mp hx).1
      rw [List.length_take, List.length_map, show outN.length = 5 from rfl] at this
      omega
    have h5 : i < outN.length := hi.2
    have eo : outN[i]? = some outN[i] := List.getElem?_eq_getElem h5
    obtain rfl : x = .str outN[i] := by
      rw [List.getElem?_take_of_lt hi.1, List.getElem?_map, eo] at hx
      exact (Option.some.inj hx).symm
    have tk : ∀ k, k ≤ 2 → ((w.tick j).put p (.dic (tbK ou))).n + k < 2 ^ 31 := fun k hk => by show w.n + j + k < 2 ^ 31; omega
    refine ⟨sz_nat 6, by decide, by decide, tk 0 (by omega), fun e e0 e1 => ?_⟩
    obtain ⟨v, hv, ev⟩ := at_draw (xs := outW) e0 e1
    refine ⟨.str v, atI_map (xs := outW) e0 ev, ?_⟩
    refine ⟨by omega, by omega, tk 1 (by omega), fun c c0 c1 => ?_⟩
    obtain ⟨y, hy, ey⟩ := at_draw (xs := keysN sc) c0 (by omega)
    refine ⟨.str y, by rw [keys_list]; exact atI_map c0 ey, sz_nat 2, ?_⟩
    have hnew : outN[i] ∉ keysN ou := by rw [hk2]; exact take_new (by decide +kernel) eo
    refine Or.inr ⟨_, .inr outN[i], W.put_at, rfl, ?_, ?_⟩
    · rw [len_mK, ← len_keysN, hk2, List.length_take]
      exact lt_sz (by omega)
    · have e := putD_mK pD ou outN[i] (y, v)
      refine ⟨_, _, j + 2, putN ou outN[i] (y, v), rfl, ?_, ⟨nodup_putN ho.nd _ _, ?_, put_dr ho.vl ⟨hy, hv⟩ hnew⟩, ?_, by omega⟩
      · show W.put _ p (.dic (putD (tbK ou) (.inr outN[i]) (pD (y, v)))) = _
        rw [e]
        exact put_eq (by show w.n + j + 1 + 1 = _; omega) updM_upd
      · intro s hs
        rw [keysN_putN, if_neg hnew] at hs
        rcases List.mem_append.mp hs with hs | hs
        · exact ho.ky s hs
        · rw [List.mem_singleton.mp hs]; exact List.getElem_mem _
      · rw [keysN_putN, if_neg hnew, hk2, take_more eo]
  rintro env w2 ⟨a3, a4, j, ou, rfl, rfl, ho, hk2, hj⟩
  have hj : j ≤ 1 + 2 * (DL.cutD (outN.map D.str) none (some (k : Int))).length := hj
  rw [ecut] at hj
  have hl5 : ((outN.map D.str).take k).length ≤ 5 := by rw [List.length_take]; exact Nat.le_trans (Nat.min_le_right _ _) (Nat.le_of_eq rfl)
  refine ⟨_, W.put_at, ?_⟩
  show Q (.dic (tbK ou)) (((w.tick j).put p (.dic (tbK ou))).del p)
  rw [W.del_put (w := w.tick j) hp]
  exact hq ou j ho (by omega)
  
def sp__law_way : DSp := fun ds w Q => ∃ sc s, ds = [.dic (scK sc), .str s] ∧ ScOk sc ∧ s ∈ keysN sc ∧ sc.length ≤ 1000 ∧ Q (.lst ((way sc s).map .str)) w
theorem ok__law_way (T : Tx K mg) (F : FnAt K mg "_law_way" s__law_way ["_law_tree_here", "_law_scope"])  : DCal P w K mg base 1 "_law_way" 2 sp__law_way := by
  obtain ⟨f, fd, F, hm, b⟩ := F.ex
  refine ⟨f, fd, _, dfn F sc__law_way (by intro ds w Q h; first | exact h.elim | (unfold sp__law_way at h; first | (obtain ⟨rfl, _⟩ := h; rfl) | (obtain ⟨_, rfl, _⟩ := h; rfl) | (obtain ⟨_, _, rfl, _⟩ := h; rfl) | (obtain ⟨_, _, _, rfl, _⟩ := h; rfl) | (obtain ⟨_, _, _, _, rfl, _⟩ := h; rfl) | (obtain ⟨_, _, _, _, _, rfl, _⟩ := h; rfl) | (obtain ⟨_, _, _, _, _, _, rfl, _⟩ := h; rfl) | (obtain ⟨_, _, _, _, _, _, _, rfl, _⟩ := h; rfl) | (obtain ⟨_, _, _, _, _, _, _, _, rfl, _⟩ := h; rfl) | (split at h <;> first | rfl | exact h.elim))) ?_, hm, F.kp, b, rfl⟩
  intro cdv A outer s H E hr hgd
  have hu := hu_of hr
  have nd := sc__law_way.nd
  refine ⟨_, (dss_cons (ds_set (i := 2) nd (de_lstM (da_cons (dv 1) da_nil)))
      (dss_cons (ds_while (passes_of rfl) (dt_cmp od_isnot (de_sub hu (dv 0) (de_sub hu (dv 2) (de_neg de_int))) de_non) (dss_one (ds_expr (de_bm PySem.F.slot_list_append PySem.F.type_list_append md_append (dv 2) (da_cons (de_sub hu (dv 0) (de_sub hu (dv 2) (de_neg de_int))) da_nil)))))
      (dss_one (ds_ret (de_frz (dv 2)))))), ?_⟩
  intro ds w Q h
  obtain ⟨sc, x, rfl, o, hx, hz, hq⟩ := h
  refine ⟨sz_nat 1, fun p hp => ?_⟩
  refine ⟨fun (m : Nat) (env : En) (w2 : W) => ∃ (pre : List Str) (last : Str), w2 = w.put p (.lst ((pre ++ [last]).map .str)) ∧ env = [some (.dic (scK sc)), some (.str x), some (.ref p)] ∧ last ∈ keysN sc ∧ (way sc last).length = m ∧ pre ++ way sc last = way sc x, ⟨_, [], x, rfl, rfl, hx, rfl, rfl⟩, ?_⟩
  rintro m env w2 ⟨pre, last, rfl, rfl, hl, hm, hw⟩
  have at1 : (w.put p (.lst ((pre ++ [last]).map .str))).m p = some (.lst ((pre ++ [last]).map .str)) := W.put_at
  have ix : atI ((pre ++ [last]).map D.str) (-1) = some (.str last) := by
    rw [List.map_append]; exact DL.atI_last _ _
  obtain ⟨a, ha⟩ := lk_some hl
  have hv := valD_mK oD sc last
  rw [ha] at hv
  refine Or.inl ⟨_, -1, .str last, at1, rfl, ix, ?_⟩
  refine ⟨.inr last, _, rfl, hv, ?_⟩
  cases a with
  | none =>
    refine ⟨_, at1, ?_⟩
    rw [o.way_root ha] at hw
    show Q (.lst ((pre ++ [last]).map .str)) ((w.put p (.lst ((pre ++ [last]).map .str))).del p)
    rw [W.del_put hp, hw]
    exact hq
  | some y =>
    have hy := o.cl last y ha
    have hlen : (way sc last).length ≤ 1001 := by
      have := len_sub (o.way_nodup last hl) (o.way_keys last hl)
      rw [len_keysN] at this
      omega
    have hlen2 : (pre ++ way sc last).length ≤ 1000 := by
      rw [hw]
      have := len_sub (o.way_nodup x hx) (o.way_keys x hx)
      rw [len_keysN] at this
      omega
    have hpos := o.way_len hl
    refine ⟨⟨_, at1⟩, ?_⟩
    refine Or.inl ⟨_, -1, .str last, at1, rfl, ix, ?_⟩
    refine ⟨.inr last, _, rfl, hv, ?_⟩
    rw [o.way_cons ha] at hm hw
    refine ⟨_, at1, ?_, (way sc y).length, by simp at hm; omega, pre ++ [last], y, ?_, rfl, hy, rfl, by simp; exact hw⟩
    · rw [List.length_map]
      refine Nat.lt_of_le_of_lt ?_ (show 1000 < sizeLine by rw [sizeLine_eq]; decide)
      simp at hlen2 ⊢
      omega
    · rw [W.put_put, List.map_append (l₁ := pre ++ [last])]
      rfl
  
def sp__law_uses : DSp := fun ds w Q => ∃ (sc : Sc) (bn : Tb) (t : Nat), ds = [.pen, .dic (scK sc), .dic (tbK bn), .int t] ∧ ScOk sc ∧ 1 ≤ sc.length ∧ sc.length ≤ 1000 ∧ (keysN bn).Nodup ∧ bn.length ≤ 1000 ∧ (∀ s ∈ keysN bn, wordS s = true) ∧ t ≤ 7 ∧ w.n + 14 < 2 ^ 31 ∧
  ∀ us j, UsDr sc bn us → j ≤ 14 → Q (.dic (tbK us)) (w.tick j)
theorem ok__law_uses (T : Tx K mg) (F : FnAt K mg "_law_uses" s__law_uses ["_law_pen_here", "_law_tree_here", "_law_binds_here", "_law_tally"]) (C__law_draw : DCal P w K mg base 2 "_law_draw" 2 sp__law_draw) (C__law_way : DCal P w K mg base 1 "_law_way" 2 sp__law_way) : DCal P w K mg base 3 "_law_uses" 4 sp__law_uses := by
  obtain ⟨f, fd, F, hm, b⟩ := F.ex
  refine ⟨f, fd, _, dfn F sc__law_uses (by intro ds w Q h; first | exact h.elim | (unfold sp__law_uses at h; first | (obtain ⟨rfl, _⟩ := h; rfl) | (obtain ⟨_, rfl, _⟩ := h; rfl) | (obtain ⟨_, _, rfl, _⟩ := h; rfl) | (obtain ⟨_, _, _, rfl, _⟩ := h; rfl) | (obtain ⟨_, _, _, _, rfl, _⟩ := h; rfl) | (obtain ⟨_, _, _, _, _, rfl, _⟩ := h; rfl) | (obtain ⟨_, _, _, _, _, _, rfl, _⟩ := h; rfl) | (obtain ⟨_, _, _, _, _, _, _, rfl, _⟩ := h; rfl) | (obtain ⟨_, _, _, _, _, _, _, _, rfl, _⟩ := h; rfl) | (split at h <;> first | rfl | exact h.elim))) ?_, hm, F.kp, b, rfl⟩
  intro cdv A outer s H E hr hgd
  have hu := hu_of hr
  have nd := sc__law_uses.nd
  refine ⟨_, (dss_cons (ds_set (i := 4) nd de_dicM)
      (dss_cons (ds_for (passes_of rfl) rfl (di_range1 T.b_range (da_cons (dv 3) da_nil)) (dg_name 5 nd) (dss_cons (ds_set (i := 6) nd (de_sub hu (de_callTy (cd_list rfl) T.b_list (da_cons (dv 1) da_nil)) (de_call (DCal.mono C__law_draw (by decide)) hr hgd (takes_unl (takes_of rfl rfl rfl rfl)) (da_cons (dv 0) (da_cons (de_callB cd_len T.b_len (da_cons (dv 1) da_nil)) da_nil)))))
      (dss_cons (ds_setLcG (i := 7) (own := [("_law_one", 8)]) finL_ok rfl nd (di_any (de_callB (cd_sorted rfl hr.units) T.b_sorted (da_cons (dv 2) da_nil))) (by kernel_rfl) (fun _ _ _ _ _ => (dg_name 8 nd)) (fun _ _ _ _ _ => (dts_one (dt_cmp (od_in hu) (de_sub hu (de_sub hu (dv 2) (dv 8)) de_int) (de_call (DCal.mono C__law_way (by decide)) hr hgd takes0 (da_cons (dv 1) (da_cons (dv 6) da_nil)))))) (fun _ _ _ _ _ => (dv 8)))
      (dss_one (ds_if (dt_cmp (od_ne hr.units) (dv 7) (de_lst da_nil)) (dss_one (ds_asg (de_tup (da_cons (dv 6) (da_cons (de_sub hu (dv 7) (de_call (DCal.mono C__law_draw (by decide)) hr hgd (takes_unl (takes_of rfl rfl rfl rfl)) (da_cons (dv 0) (da_cons (de_callB cd_len T.b_len (da_cons (dv 7) da_nil)) da_nil)))) da_nil))) (dg_sub hu (dv 4) (de_sub hu (de_lst (da_cons de_str (da_cons de_str (da_cons de_str (da_cons de_str (da_cons de_str (da_cons de_str (da_cons de_str da_nil)))))))) (dv 5))))) dss_nil)))))
      (dss_one (ds_ret (de_frz (dv 4)))))), ?_⟩
  intro ds w Q h
  obtain ⟨sc, bn, t, rfl, ok, l1, l2, nb, lb, wb, h8, hn, hq⟩ := h
  refine fun p hp => ?_
  refine ⟨by omega, by omega, ?_⟩
  have ht : ((t : Nat) : Int).toNat = t := by omega
  rw [ht]
  have hkl : (keysN sc).length = sc.length := len_keysN sc
  refine ⟨fun i env w2 => ∃ (a5 a6 a7 : Option D) (j : Nat) (us : Tb), env = [some .pen, some (.dic (scK sc)), some (.dic (tbK bn)), some (.int t), some (.ref p), a5, a6, a7, none] ∧ w2 = (w.tick j).put p (.dic (tbK us)) ∧ UsDr sc bn us ∧ (∀ s ∈ keysN us, s ∈ useN.take i) ∧ j ≤ 2 * i,
    ⟨none, none, none, 0, [], rfl, rfl, ⟨by simp [keysN], fun s h => (by cases h), fun e h => (by cases h)⟩, fun s h => (by cases h), by omega⟩, ?_, ?_⟩
  · rintro i x env w2 hx ⟨a5, a6, a7, j, us, rfl, rfl, hu, hk, hj⟩
    obtain ⟨hi, rfl⟩ := rng_get hx
    have tk : ∀ k, k ≤ 2 → ((w.tick j).put p (.dic (tbK us))).n + k < 2 ^ 31 := fun k hk => by show w.n + j + k < 2 ^ 31; omega
    have hlen : (scK sc).length = sc.length := len_mK _ _
    refine ⟨by omega, by omega, tk 0 (by omega), fun d d0 d1 => ?_⟩
    obtain ⟨y, hy, ey⟩ := at_draw (xs := keysN sc) d0 (by omega)
    refine ⟨.str y, by rw [keys_list]; exact atI_map d0 ey, ?_⟩
    refine ⟨keysN bn, mK_keys pD bn, ?_⟩
    let q : Str → Bool := fun s => match lk bn s with | some b => decide (b.1 ∈ way sc y) | none => false
    have eq : ((sortT (keysN bn)).map D.str).filter (fun x => match x with | .str s => q s | _ => false) = ((sortT (keysN bn)).filter q).map D.str := by
      rw [List.filter_map]; rfl
    refine lc_filter (fun x => match x with | .str s => q s | _ => false) id (by rw [List.length_map, sortT_len, len_keysN]; exact le_sz (by omega)) (fun z hz R S hR hS => ?_) ?_
    · obtain ⟨s, hs, rfl⟩ := List.mem_map.mp hz
      obtain ⟨b, hb⟩ := lk_some (mem_sortT.mp hs)
      refine ⟨.inr s, _, rfl, sub_key hb, ?_⟩
      refine ⟨.str b.1, rfl, sc, y, rfl, ok, hy, l2, ?_⟩
      refine ⟨by rw [scal_strs]; rfl, ?_⟩
      rw [memS_str]
      have e : q s = decide (b.1 ∈ way sc y) := by show (match lk bn s with | some b => decide (b.1 ∈ way sc y) | none => false) = _; rw [hb]
      refine ify (fun c => hR (by rw [← c]; exact e)) (fun c => hS (by rw [← c]; exact e))
    · rw [eq, List.map_id]
      generalize hL : (sortT (keysN bn)).filter q = L
      have hLm : ∀ s ∈ L, ∃ b, lk bn s = some b ∧ b.1 ∈ way sc y := fun s hs => by
        rw [← hL] at hs
        obtain ⟨h1, h2⟩ := List.mem_filter.mp hs
        obtain ⟨b, hb⟩ := lk_some (mem_sortT.mp h1)
        refine ⟨b, hb, ?_⟩
        have e : q s = decide (b.1 ∈ way sc y) := by show (match lk bn s with | some b => decide (b.1 ∈ way sc y) | none => false) = _; rw [hb]
        rw [e] at h2
        exact of_decide_eq_true h2
      have hLk : ∀ s ∈ L, s ∈ keysN bn := fun s hs => by
        obtain ⟨b, hb, _⟩ := hLm s hs
        exact lk_key hb
      have hLl : L.length ≤ 1000 := by
        have : L.Nodup := by rw [← hL]; exact List.Pairwise.filter _ ((sortT_perm _).nodup_iff.mpr nb)
        have := len_sub this hLk
        rw [len_keysN] at this
        omega
      refine ⟨sz_nat 0, ?_⟩
      refine eq_strsL (ys := []) (words_sOk fun s hs => wb s (hLk s hs)) (fun s hs => nomatch hs) ?_
      have hiu : i < useN.length := by show i < 7; omega
      have eu : useN[i]? = some useN[i] := List.getElem?_eq_getElem hiu
      refine ifne (fun c => ?_) (fun c => ?_)
      · have hLp : 0 < L.length := by
          rcases Nat.eq_zero_or_pos L.length with h | h
          · exact absurd (List.length_eq_zero_iff.mp h) (of_decide_eq_false c)
          · exact h
        have hll : (L.map D.str).length = L.length := List.length_map _
        refine ⟨by omega, by omega, tk 1 (by omega), fun e e0 e1 => ?_⟩
        obtain ⟨v, hv, ev⟩ := at_draw (xs := L) e0 (by omega)
        refine ⟨.str v, atI_map e0 ev, sz_nat 2, sz_nat 7, .str useN[i], atI_map (xs := useN) (by omega) (by simpa using eu), ?_⟩
        have hnew : useN[i] ∉ keysN us := fun h => take_new (by decide +kernel) eu (hk _ h)
        refine Or.inr ⟨_, .inr useN[i], W.put_at, rfl, ?_, ?_⟩
        · rw [len_mK, ← len_keysN]
          have := len_sub hu.nd hu.ky
          rw [show useN.length = 7 from rfl] at this
          exact lt_sz (by omega)
        · have e := putD_mK pD us useN[i] (y, v)
          refine ⟨_, _, _, j + 2, putN us useN[i] (y, v), rfl, ?_, ⟨nodup_putN hu.nd _ _, ?_, put_dr hu.vl ⟨hy, hLm v hv⟩ hnew⟩, ?_, by omega⟩
          · show W.put _ p (.dic (putD (tbK us) (.inr useN[i]) (pD (y, v)))) = _
            rw [e]
            exact put_eq (by show w.n + j + 1 + 1 = _; omega) updM_upd
          · intro s hs
            rw [keysN_putN, if_neg hnew] at hs
            rcases List.mem_append.mp hs with hs | hs
            · exact hu.ky s hs
            · rw [List.mem_singleton.mp hs]; exact List.getElem_mem _
          · intro s hs
            rw [keysN_putN, if_neg hnew] at hs
            rw [take_more eu]
            rcases List.mem_append.mp hs with hs | hs
            · exact List.mem_append_left _ (hk s hs)
            · exact List.mem_append_right _ hs
      · refine ⟨_, _, _, j + 1, us, rfl, put_eq (by show w.n + j + 1 = _; omega) rfl, hu, fun s hs => ?_, by omega⟩
        rw [take_more eu]
        exact List.mem_append_left _ (hk s hs)
  rw [rng_len]
  rintro env w2 ⟨a5, a6, a7, j, us, rfl, rfl, hu, hk, hj⟩
  refine ⟨_, W.put_at, ?_⟩
  show Q (.dic (tbK us)) (((w.tick j).put p (.dic (tbK us))).del p)
  rw [W.del_put (w := w.tick j) hp]
  exact hq us j hu (by omega)
  
def sp__law_binds : DSp := fun ds w Q => ∃ (sc : Sc) (t : Nat), ds = [.pen, .dic (scK sc), .int t] ∧ 1 ≤ sc.length ∧ sc.length ≤ 1000 ∧ t ≤ 8 ∧ w.n + 16 < 2 ^ 31 ∧ ∀ bn j, BnDr sc bn → bn.length = t → j ≤ 16 → Q (.dic (tbK bn)) (w.tick j)
theorem ok__law_binds (T : Tx K mg) (F : FnAt K mg "_law_binds" s__law_binds ["_law_pen_here", "_law_tree_here", "_law_tally"]) (C__law_draw : DCal P w K mg base 2 "_law_draw" 2 sp__law_draw) : DCal P w K mg base 3 "_law_binds" 3 sp__law_binds := by
  obtain ⟨f, fd, F, hm, b⟩ := F.ex
  refine ⟨f, fd, _, dfn F sc__law_binds (by intro ds w Q h; first | exact h.elim | (unfold sp__law_binds at h; first | (obtain ⟨rfl, _⟩ := h; rfl) | (obtain ⟨_, rfl, _⟩ := h; rfl) | (obtain ⟨_, _, rfl, _⟩ := h; rfl) | (obtain ⟨_, _, _, rfl, _⟩ := h; rfl) | (obtain ⟨_, _, _, _, rfl, _⟩ := h; rfl) | (obtain ⟨_, _, _, _, _, rfl, _⟩ := h; rfl) | (obtain ⟨_, _, _, _, _, _, rfl, _⟩ := h; rfl) | (obtain ⟨_, _, _, _, _, _, _, rfl, _⟩ := h; rfl) | (obtain ⟨_, _, _, _, _, _, _, _, rfl, _⟩ := h; rfl) | (split at h <;> first | rfl | exact h.elim))) ?_, hm, F.kp, b, rfl⟩
  intro cdv A outer s H E hr hgd
  have hu := hu_of hr
  have nd := sc__law_binds.nd
  refine ⟨_, (dss_cons (ds_set (i := 3) nd (de_callTy (cd_list rfl) T.b_list (da_cons (dv 1) da_nil)))
      (dss_cons (ds_set (i := 4) nd de_dicM)
      (dss_cons (ds_for (passes_of rfl) rfl (di_range1 T.b_range (da_cons (dv 2) da_nil)) (dg_name 5 nd) (dss_cons (ds_set (i := 6) nd (de_sub hu (de_lst (da_cons de_str (da_cons de_str (da_cons de_str (da_cons de_str (da_cons de_str (da_cons de_str (da_cons de_str (da_cons de_str da_nil))))))))) (dv 5)))
      (dss_one (ds_asg (de_tup (da_cons (de_sub hu (dv 3) (de_call (DCal.mono C__law_draw (by decide)) hr hgd (takes_unl (takes_of rfl rfl rfl rfl)) (da_cons (dv 0) (da_cons (de_callB cd_len T.b_len (da_cons (dv 3) da_nil)) da_nil)))) (da_cons (de_sub hu (de_lst (da_cons de_str (da_cons de_str (da_cons de_str (da_cons de_str da_nil))))) (de_call (DCal.mono C__law_draw (by decide)) hr hgd (takes_unl (takes_of rfl rfl rfl rfl)) (da_cons (dv 0) (da_cons de_int da_nil)))) da_nil))) (dg_sub hu (dv 4) (dv 6))))))
      (dss_one (ds_ret (de_frz (dv 4))))))), ?_⟩
  intro ds w Q h
  obtain ⟨sc, t, rfl, l1, l2, h8, hn, hq⟩ := h
  refine fun p hp => ?_
  rw [keys_list oD sc]
  refine ⟨by omega, by omega, ?_⟩
  have ht : ((t : Nat) : Int).toNat = t := by omega
  rw [ht]
  have hkl : (keysN sc).length = sc.length := len_keysN sc
  refine ⟨fun i env w2 => ∃ (a5 a6 : Option D) (j : Nat) (bn : Tb), env = [some .pen, some (.dic (scK sc)), some (.int t), some (.lst ((keysN sc).map .str)), some (.ref p), a5, a6] ∧ w2 = (w.tick j).put p (.dic (tbK bn)) ∧ BnDr sc bn ∧ keysN bn = bindN.take i ∧ j ≤ 2 * i,
    ⟨none, none, 0, [], rfl, rfl, ⟨by simp [keysN], fun s h => (by cases h), fun e h => (by cases h)⟩, rfl, by omega⟩, ?_, ?_⟩
  · rintro i x env w2 hx ⟨a5, a6, j, bn, rfl, rfl, hb, hk, hj⟩
    obtain ⟨hi, rfl⟩ := rng_get hx
    have hib : i < bindN.length := by show i < 8; omega
    have eb : bindN[i]? = some bindN[i] := List.getElem?_eq_getElem hib
    have tk : ∀ k, k ≤ 2 → ((w.tick j).put p (.dic (tbK bn))).n + k < 2 ^ 31 := fun k hk => by show w.n + j + k < 2 ^ 31; omega
    refine ⟨sz_nat 8, .str bindN[i], atI_map (xs := bindN) (by omega) (by simpa using eb), ?_⟩
    have hll : ((keysN sc).map D.str).length = sc.length := by rw [List.length_map]; exact hkl
    refine ⟨by omega, by omega, tk 0 (by omega), fun d d0 d1 => ?_⟩
    obtain ⟨y, hy, ey⟩ := at_draw (xs := keysN sc) d0 (by omega)
    refine ⟨.str y, atI_map d0 ey, sz_nat 4, by omega, by omega, tk 1 (by omega), fun e e0 e1 => ?_⟩
    obtain ⟨v, hv, ev⟩ := four e0 e1
    refine ⟨.str v, ev, sz_nat 2, ?_⟩
    have hnew : bindN[i] ∉ keysN bn := by
      rw [hk]; exact take_new (by decide +kernel) eb
    refine Or.inr ⟨_, .inr bindN[i], W.put_at, rfl, ?_, ?_⟩
    · rw [len_mK, ← len_keysN, hk, List.length_take]
      exact lt_sz (by omega)
    · have e := putD_mK pD bn bindN[i] (y, v)
      refine ⟨_, _, j + 2, putN bn bindN[i] (y, v), rfl, ?_, ⟨nodup_putN hb.nd _ _, ?_, put_dr hb.vl ⟨hy, hv⟩ hnew⟩, ?_, by omega⟩
      · show W.put _ p (.dic (putD (tbK bn) (.inr bindN[i]) (pD (y, v)))) = _
        rw [e]
        exact put_eq (by show w.n + j + 1 + 1 = _; omega) updM_upd
      · intro s hs
        rw [keysN_putN, if_neg hnew] at hs
        rcases List.mem_append.mp hs with hs | hs
        · exact hb.ky s hs
        · rw [List.mem_singleton.mp hs]; exact List.getElem_mem _
      · rw [keysN_putN, if_neg hnew, hk, take_more eb]
  rw [rng_len]
  rintro env w2 ⟨a5, a6, j, bn, rfl, rfl, hb, hk, hj⟩
  refine ⟨_, W.put_at, ?_⟩
  show Q (.dic (tbK bn)) (((w.tick j).put p (.dic (tbK bn))).del p)
  rw [W.del_put (w := w.tick j) hp]
  refine hq bn j hb ?_ (by omega)
  rw [← len_keysN, hk, List.length_take]
  show min t 8 = t
  omega
  
def sp__law_tree : DSp := fun ds w Q => ∃ t : Nat, ds = [.pen, .int t] ∧ 1 ≤ t ∧ t ≤ 8 ∧ w.n + 24 < 2 ^ 31 ∧ ∀ sc j, OrdSc sc → sc.length = t → (∀ s ∈ keysN sc, s ∈ poolN) → j ≤ 24 → Q (.dic (scK sc)) (w.tick j)
theorem ok__law_tree (T : Tx K mg) (F : FnAt K mg "_law_tree" s__law_tree ["_law_pen_here", "_law_tally"]) (C__law_draw : DCal P w K mg base 2 "_law_draw" 2 sp__law_draw) : DCal P w K mg base 3 "_law_tree" 2 sp__law_tree := by
  obtain ⟨f, fd, F, hm, b⟩ := F.ex
  refine ⟨f, fd, _, dfn F sc__law_tree (by intro ds w Q h; first | exact h.elim | (unfold sp__law_tree at h; first | (obtain ⟨rfl, _⟩ := h; rfl) | (obtain ⟨_, rfl, _⟩ := h; rfl) | (obtain ⟨_, _, rfl, _⟩ := h; rfl) | (obtain ⟨_, _, _, rfl, _⟩ := h; rfl) | (obtain ⟨_, _, _, _, rfl, _⟩ := h; rfl) | (obtain ⟨_, _, _, _, _, rfl, _⟩ := h; rfl) | (obtain ⟨_, _, _, _, _, _, rfl, _⟩ := h; rfl) | (obtain ⟨_, _, _, _, _, _, _, rfl, _⟩ := h; rfl) | (obtain ⟨_, _, _, _, _, _, _, _, rfl, _⟩ := h; rfl) | (split at h <;> first | rfl | exact h.elim))) ?_, hm, F.kp, b, rfl⟩
  intro cdv A outer s H E hr hgd
  have hu := hu_of hr
  have nd := sc__law_tree.nd
  refine ⟨_, (dss_cons (ds_set (i := 2) nd (de_lstM (da_cons de_str (da_cons de_str (da_cons de_str (da_cons de_str (da_cons de_str (da_cons de_str (da_cons de_str (da_cons de_str da_nil))))))))))
      (dss_cons (ds_setLcG (i := 3) (own := [("_law_turn", 6)]) finL_ok rfl nd (di_range1 T.b_range (da_cons (dv 1) da_nil)) (by kernel_rfl) (fun _ _ _ _ _ => (dg_name 6 nd)) (fun _ _ _ _ _ => dts_nil) (fun _ _ _ _ _ => (de_bm PySem.F.slot_list_pop PySem.F.type_list_pop md_pop (dv 2) (da_cons (de_call (DCal.mono C__law_draw (by decide)) hr hgd takes0 (da_cons (dv 0) (da_cons (de_callB cd_len T.b_len (da_cons (dv 2) da_nil)) da_nil))) da_nil))))
      (dss_cons (ds_frz 2 (ds_set (i := 4) nd (de_disp finDM_ok (dps_cons (de_sub hu (dv 3) de_int) de_non dps_nil))))
      (dss_cons (ds_for (passes_of rfl) rfl (di_range2 T.b_range (da_cons de_int (da_cons (dv 1) da_nil))) (dg_name 5 nd) (dss_one (ds_asg (de_sub hu (dv 3) (de_sub hu (de_lst (da_cons (de_op od_sub (dv 5) de_int) (da_cons (de_call (DCal.mono C__law_draw (by decide)) hr hgd (takes_unl (takes_of rfl rfl rfl rfl)) (da_cons (dv 0) (da_cons (dv 5) da_nil))) da_nil))) (de_call (DCal.mono C__law_draw (by decide)) hr hgd (takes_unl (takes_of rfl rfl rfl rfl)) (da_cons (dv 0) (da_cons de_int da_nil))))) (dg_sub hu (dv 4) (de_sub hu (dv 3) (dv 5))))))
      (dss_one (ds_ret (de_frz (dv 4)))))))), ?_⟩
  intro ds w Q h
  obtain ⟨t, rfl, h1, h8, hn, hq⟩ := h
  refine ⟨sz_nat 8, fun p hp => ?_⟩
  refine ⟨by omega, by omega, ?_⟩
  have ht : ((t : Nat) : Int).toNat = t := by omega
  rw [ht]
  refine ⟨by rw [rng_len]; exact le_sz (by omega), fun i acc w2 => ∃ (j : Nat) (names rest : List Str), j ≤ i ∧ names.length = i ∧ acc = names.map .str ∧ w2 = (w.tick j).put p (.lst (rest.map .str)) ∧ (names ++ rest).Perm poolN, ⟨0, [], poolN, Nat.le_refl _, rfl, rfl, rfl, List.Perm.refl _⟩, ?_, ?_⟩
  · rintro i x acc w2 hx _ ⟨j, names, rest, hj, hl, rfl, rfl, hP⟩
    have hi : i < t := (rng_get hx).1
    have hr : rest.length = 8 - i := by
      have := hP.length_eq
      rw [List.length_append, hl, show poolN.length = 8 from rfl] at this
      omega
    refine ⟨⟨_, W.put_at⟩, ?_⟩
    refine Or.inl ⟨_, W.put_at, ?_⟩
    rw [List.length_map]
    refine ⟨by omega, by omega, by show w.n + j < 2 ^ 31; omega, fun d d0 d1 => ?_⟩
    obtain ⟨y, hy, ey⟩ := at_draw d0 d1
    refine ⟨_, d.toNat, .str y, W.put_at, by omega, by omega, by rw [List.length_map]; exact seqIx d0 d1, by rw [List.getElem?_map, ey]; rfl, ?_⟩
    rw [map_eraseIdx]
    refine ⟨j + 1, names ++ [y], rest.eraseIdx d.toNat, by omega, by simp [hl], by simp, put_eq ?_ updM_upd, ?_⟩
    · show w.n + j + 1 = w.n + (j + 1); omega
    · refine List.Perm.trans ?_ hP
      rw [List.append_assoc]
      exact (perm_pop ey).append_left names
  rw [rng_len]
  rintro acc w2 ⟨j, names, rest, hj, hl, rfl, rfl, hP⟩
  have nd : names.Nodup := (List.nodup_append.mp (hP.nodup_iff.mpr (by decide +kernel))).1
  have sub : ∀ s ∈ names, s ∈ poolN := fun s hs => hP.mem_iff.mp (List.mem_append_left _ hs)
  refine ⟨p, _, rfl, W.put_at, ?_⟩
  have ed : ((w.tick j).put p (.lst (rest.map .str))).del p = w.tick j := W.del_put hp
  rw [ed]
  obtain ⟨n0, nr, en⟩ : ∃ n0 nr, names = n0 :: nr := by
    cases names with
    | nil => simp at hl; omega
    | cons a r => exact ⟨a, r, rfl⟩
  refine ⟨.str n0, by rw [en]; exact atI0 _ _, ?_⟩
  refine ⟨_, rfl, Nat.le_of_ble_eq_true rfl, fun q hq0 => ?_⟩
  refine ⟨⟨by omega, by omega, by omega, by omega⟩, ?_⟩
  have ht1 : (((t : Nat) : Int) - 1).toNat = t - 1 := by omega
  rw [ht1]
  refine ⟨fun i env w2 => ∃ (a5 : Option D) (j2 : Nat) (sc : Sc), env = [some .pen, some (.int t), some (.lst (rest.map .str)), some (.lst (names.map .str)), some (.ref q), a5, none] ∧ w2 = (w.tick j2).put q (.dic (scK sc)) ∧ OrdSc sc ∧ keysN sc = names.take (i + 1) ∧ j2 ≤ 8 + 2 * i,
    ⟨none, j, [(n0, none)], rfl, rfl, .root n0, by rw [en]; rfl, by omega⟩, ?_, ?_⟩
  · rintro i x env w2 hx ⟨a5, j2, sc, rfl, rfl, ho, hk, hj2⟩
    obtain ⟨hi, rfl⟩ := rng_get hx
    have tk : ∀ k, k ≤ 2 → ((w.tick j2).put q (.dic (scK sc))).n + k < 2 ^ 31 := fun k hk => by show w.n + j2 + k < 2 ^ 31; omega
    refine ⟨by omega, by omega, tk 0 (by omega), fun d d0 d1 => ?_⟩
    refine ⟨sz_nat 2, by omega, by omega, tk 1 (by omega), fun e e0 e1 => ?_⟩
    have ix : ∃ k : Nat, k < i + 1 ∧ atI [D.int (1 + (i : Int) - 1), D.int d] e = some (.int k) := by
      have : e = 0 ∨ e = 1 := by omega
      rcases this with rfl | rfl
      · exact ⟨i, by omega, by rw [atI0]; congr 2; omega⟩
      · exact ⟨d.toNat, by omega, by show some (D.int d) = _; congr 2; omega⟩
    obtain ⟨k, hk1, hk2⟩ := ix
    refine ⟨_, hk2, ?_⟩
    have hkl : k < names.length := by omega
    have ek : names[k]? = some names[k] := List.getElem?_eq_getElem hkl
    refine ⟨.str names[k], atI_map (by omega) (by simpa using ek), ?_⟩
    have hil : i + 1 < names.length := by omega
    have ei : names[i + 1]? = some names[i + 1] := List.getElem?_eq_getElem hil
    refine ⟨.str names[i + 1], atI_map (by omega) (by
      have : (1 + (i : Int)).toNat = i + 1 := by omega
      rw [this]; exact ei), ?_⟩
    refine Or.inr ⟨_, .inr names[i + 1], W.put_at, rfl, ?_, ?_⟩
    · rw [len_mK, ← len_keysN, hk, List.length_take]
      exact lt_sz (by omega)
    · have hnew : names[i + 1] ∉ keysN sc := by
        rw [hk]
        intro hm
        obtain ⟨j', hj', e⟩ := List.mem_take_iff_getElem.mp hm
        have := (List.getElem?_inj (i := j') (j := i + 1) (by omega) nd).mp (by rw [List.getElem?_eq_getElem (by omega), ei, e])
        omega
      refine ⟨_, j2 + 2, sc ++ [(names[i + 1], some names[k])], rfl, ?_, .snoc ho hnew ?_, ?_, by omega⟩
      · have e := putD_mK oD sc names[i + 1] (some names[k])
        rw [putN_new hnew] at e
        show W.put _ q (.dic (putD (scK sc) (.inr names[i + 1]) (oD (some names[k])))) = _
        rw [e]
        exact put_eq (by show w.n + j2 + 1 + 1 = _; omega) updM_upd
      · rw [hk]
        exact List.mem_take_iff_getElem.mpr ⟨k, by omega, rfl⟩
      · rw [keysN_append, hk, List.take_succ (i := i + 1), ei]
        rfl
  rw [rng_len]
  rintro env w2 ⟨a5, j2, sc, rfl, rfl, ho, hk, hj2⟩
  refine ⟨_, W.put_at, ?_⟩
  show Q (.dic (scK sc)) (((w.tick j2).put q (.dic (scK sc))).del q)
  rw [W.del_put (w := w.tick j2) hq0]
  have hk' : keysN sc = names := by rw [hk]; exact List.take_of_length_le (by omega)
  refine hq sc j2 ho ?_ (by rw [hk']; exact sub) (by omega)
  rw [← len_keysN, hk', hl]
  
def sp__law_parts : DSp := fun ds w Q => ∃ (m : Nat), ds = [.pen, .int m] ∧ m ≤ 8 ∧ w.n + 100 < 2 ^ 31 ∧ ∀ P j, Drawn P → P.bn.length ≤ m → j ≤ 80 → Q (partsD P) (w.tick j)
theorem ok__law_parts (T : Tx K mg) (F : FnAt K mg "_law_parts" s__law_parts ["_law_pen_here", "_law_most"]) (C__law_outer : DCal P w K mg base 3 "_law_outer" 2 sp__law_outer) (C__law_draw : DCal P w K mg base 2 "_law_draw" 2 sp__law_draw) (C__law_uses : DCal P w K mg base 3 "_law_uses" 4 sp__law_uses) (C__law_binds : DCal P w K mg base 3 "_law_binds" 3 sp__law_binds) (C__law_tree : DCal P w K mg base 3 "_law_tree" 2 sp__law_tree) : DCal P w K mg base 4 "_law_parts" 2 sp__law_parts := by
  obtain ⟨f, fd, F, hm, b⟩ := F.ex
  refine ⟨f, fd, _, dfn F sc__law_parts (by intro ds w Q h; first | exact h.elim | (unfold sp__law_parts at h; first | (obtain ⟨rfl, _⟩ := h; rfl) | (obtain ⟨_, rfl, _⟩ := h; rfl) | (obtain ⟨_, _, rfl, _⟩ := h; rfl) | (obtain ⟨_, _, _, rfl, _⟩ := h; rfl) | (obtain ⟨_, _, _, _, rfl, _⟩ := h; rfl) | (obtain ⟨_, _, _, _, _, rfl, _⟩ := h; rfl) | (obtain ⟨_, _, _, _, _, _, rfl, _⟩ := h; rfl) | (obtain ⟨_, _, _, _, _, _, _, rfl, _⟩ := h; rfl) | (obtain ⟨_, _, _, _, _, _, _, _, rfl, _⟩ := h; rfl) | (split at h <;> first | rfl | exact h.elim))) ?_, hm, F.kp, b, rfl⟩
  intro cdv A outer s H E hr hgd
  have hu := hu_of hr
  have nd := sc__law_parts.nd
  refine ⟨_, (dss_cons (ds_set (i := 2) nd (de_call (DCal.mono C__law_tree (by decide)) hr hgd (takes_of rfl rfl rfl rfl) (da_cons (dv 0) (da_cons (de_op od_add de_int (de_call (DCal.mono C__law_draw (by decide)) hr hgd (takes_of rfl rfl rfl rfl) (da_cons (dv 0) (da_cons de_int da_nil)))) da_nil))))
      (dss_cons (ds_set (i := 3) nd (de_call (DCal.mono C__law_binds (by decide)) hr hgd (takes_of rfl rfl rfl rfl) (da_cons (dv 0) (da_cons (dv 2) (da_cons (de_call (DCal.mono C__law_draw (by decide)) hr hgd (takes_of rfl rfl rfl rfl) (da_cons (dv 0) (da_cons (de_op od_add (dv 1) de_int) da_nil))) da_nil)))))
      (dss_cons (ds_set (i := 4) nd (de_call (DCal.mono C__law_uses (by decide)) hr hgd (takes_of rfl rfl rfl rfl) (da_cons (dv 0) (da_cons (dv 2) (da_cons (dv 3) (da_cons (de_call (DCal.mono C__law_draw (by decide)) hr hgd (takes_of rfl rfl rfl rfl) (da_cons (dv 0) (da_cons de_int da_nil))) da_nil))))))
      (dss_cons (ds_set (i := 5) nd (de_lst (da_cons (de_tup da_nil) (da_cons (de_tup da_nil) (da_cons (de_tup (da_cons de_str da_nil)) (da_cons (de_tup (da_cons de_str (da_cons de_str da_nil))) (da_cons (de_tup (da_cons de_str (da_cons de_str (da_cons de_str (da_cons de_str da_nil))))) (da_cons (de_tup (da_cons de_str (da_cons de_str (da_cons de_str (da_cons de_str da_nil))))) da_nil))))))))
      (dss_cons (ds_set (i := 6) nd (de_sub hu (dv 5) (de_call (DCal.mono C__law_draw (by decide)) hr hgd (takes_of rfl rfl rfl rfl) (da_cons (dv 0) (da_cons de_int da_nil)))))
      (dss_one (ds_ret (de_tup (da_cons (dv 2) (da_cons (dv 3) (da_cons (dv 4) (da_cons (de_call (DCal.mono C__law_outer (by decide)) hr hgd (takes_of rfl rfl rfl rfl) (da_cons (dv 0) (da_cons (dv 2) da_nil))) (da_cons (dv 6) da_nil))))))))))))), ?_⟩
  intro ds w Q h
  obtain ⟨m, rfl, hm8, hn, hq⟩ := h
  refine ⟨by decide, by decide, by show w.n < 2 ^ 31; omega, fun d d0 d1 => ?_⟩
  obtain ⟨d, rfl⟩ : ∃ n : Nat, d = n := ⟨d.toNat, by omega⟩
  refine ⟨1 + d, rfl, by omega, by omega, by show w.n + 1 + 24 < 2 ^ 31; omega, fun sc j1 hsc lsc ksc hj1 => ?_⟩
  have ok : ScOk sc := hsc.ok fun s hs => poolN_wd s (ksc s hs)
  refine ⟨by omega, by omega, by show w.n + 1 + j1 < 2 ^ 31; omega, fun e e0 e1 => ?_⟩
  obtain ⟨e, rfl⟩ : ∃ n : Nat, e = n := ⟨e.toNat, by omega⟩
  refine ⟨sc, e, rfl, by omega, by omega, by omega, by show w.n + 1 + j1 + 1 + 16 < 2 ^ 31; omega, fun bn j2 hbn lbn hj2 => ?_⟩
  refine ⟨by decide, by decide, by show w.n + 1 + j1 + 1 + j2 < 2 ^ 31; omega, fun f f0 f1 => ?_⟩
  obtain ⟨f, rfl⟩ : ∃ n : Nat, f = n := ⟨f.toNat, by omega⟩
  refine ⟨sc, bn, f, rfl, ok, by omega, by omega, hbn.nd, by omega, fun s hs => bindN_wd s (hbn.ky s hs), by omega, by show w.n + 1 + j1 + 1 + j2 + 1 + 14 < 2 ^ 31; omega, fun us j3 hus hj3 => ?_⟩
  refine ⟨sz_nat 0, sz_nat 0, sz_nat 1, sz_nat 2, sz_nat 4, sz_nat 4, sz_nat 6, ?_⟩
  refine ⟨by decide, by decide, by show w.n + 1 + j1 + 1 + j2 + 1 + j3 < 2 ^ 31; omega, fun g g0 g1 => ?_⟩
  obtain ⟨r, hr, er⟩ := resAt g0 g1
  refine ⟨_, er, ?_⟩
  refine ⟨sc, rfl, by omega, by omega, by show w.n + 1 + j1 + 1 + j2 + 1 + j3 + 1 + 11 < 2 ^ 31; omega, fun ou j4 hou hj4 => ?_⟩
  refine ⟨sz_nat 5, ?_⟩
  exact at_tick (w := w) (Q := Q) (1 + j1 + 1 + j2 + 1 + j3 + 1 + j4) (by show w.n + 1 + j1 + 1 + j2 + 1 + j3 + 1 + j4 = _; omega) (hq ⟨sc, bn, us, ou, r⟩ _ ⟨hsc, ksc, hbn, hus, hou, hr⟩ (by show bn.length ≤ m; omega) (by omega))
  
def abcN : Str := "abcdefghijklnopqrstuvwxy"
def adgN : Str := "adgjp"
def sgnN (z : Str) (j : Nat) : Str := ⟨#[(z.cps.toList[j]?).getD 0]⟩
def sideA : Nat → Sc
  | 0 => [("m", none)]
  | i + 1 => putN (sideA i) (sgnN abcN (i * 7 % 24)) (some "m")
def sideB : Nat → Sc
  | 0 => sideA 24
  | i + 1 => putN (sideB i) (nmI "z" (i : Int)) (some (sgnN adgN i))
def sideK : List Str := ["a", "b", "c", "d", "e", "f", "g", "h", "i", "j", "k", "l", "m", "n", "o", "p", "q", "r", "s", "t", "u", "v", "w", "x", "y", "z0", "z1", "z2", "z3", "z4"]
def sideP : Parts := ⟨sideB 5, (List.range 12).map fun (k : Nat) => (nmI "b" (k : Int), ((sideK[((k : Int) * 5 % 30).toNat]?).getD "a", "x")), [], [("o1", ("z4", "abcdefg1"))], ["if"]⟩
theorem sideP_wf : WF sideP := wf_dec (ordB_ok (by decide +kernel)) (by decide +kernel) (by decide +kernel) (by decide +kernel) (by decide +kernel) (by decide +kernel) (by decide +kernel) (by decide +kernel) (by decide +kernel) (by decide +kernel) (by decide +kernel)
theorem side_sort : sortT (keysN (sideB 5)) = sideK := by
  have e : sortT sideK = sideK := sortT_srt (by decide +kernel)
  rw [← e]
  refine sort_same (by decide +kernel) (by decide +kernel) fun s => ?_
  have h1 : ∀ s ∈ keysN (sideB 5), s ∈ sideK := by decide +kernel
  have h2 : ∀ s ∈ sideK, s ∈ keysN (sideB 5) := by decide +kernel
  exact ⟨h1 s, h2 s⟩
theorem side_len : ∀ i : Nat, i < 30 → (sideA i).length < 100 ∧ (sideB i).length < 100 := by decide +kernel
def sdF (x : D) : D := match x with
  | .int k => .tup [.str (nmI "b" k), .tup [.str ((sideK[(k * 5 % 30).toNat]?).getD "a"), .str "x"]]
  | _ => .non
theorem sd_bn : pairsOf ((rangeD 0 12).map sdF) = some (tbK sideP.bn) := by kernel_rfl
theorem sgn_at (z : Str) {j : Int} (h0 : 0 ≤ j) (h1 : j < z.length) : ∃ c, atI z.cps.toList j = some c ∧ (⟨#[c]⟩ : Str) = sgnN z j.toNat := by
  have lt : j.toNat < z.cps.toList.length := by
    have : z.cps.toList.length = z.length := Array.length_toList
    omega
  refine ⟨z.cps.toList[j.toNat], atI_of h0 (List.getElem?_eq_getElem lt), ?_⟩
  unfold sgnN
  rw [List.getElem?_eq_getElem lt]
  rfl
theorem sd_num : ∀ j : Nat, j < 100 → (j : Int).natAbs.log2 < 1920 ∧ (toString (j : Int) : Str).length ≤ 4 := by decide +kernel
def sp__law_side_by_side : DSp := fun ds w Q => ∃ P, P = sideP ∧ ds = [] ∧ Q (partsD P) w
theorem ok__law_side_by_side (T : Tx K mg) (F : FnAt K mg "_law_side_by_side" s__law_side_by_side [])  : DCal P w K mg base 1 "_law_side_by_side" 0 sp__law_side_by_side := by
  obtain ⟨f, fd, F, hm, b⟩ := F.ex
  refine ⟨f, fd, _, dfn F sc__law_side_by_side (by intro ds w Q h; first | exact h.elim | (unfold sp__law_side_by_side at h; first | (obtain ⟨rfl, _⟩ := h; rfl) | (obtain ⟨_, rfl, _⟩ := h; rfl) | (obtain ⟨_, _, rfl, _⟩ := h; rfl) | (obtain ⟨_, _, _, rfl, _⟩ := h; rfl) | (obtain ⟨_, _, _, _, rfl, _⟩ := h; rfl) | (obtain ⟨_, _, _, _, _, rfl, _⟩ := h; rfl) | (obtain ⟨_, _, _, _, _, _, rfl, _⟩ := h; rfl) | (obtain ⟨_, _, _, _, _, _, _, rfl, _⟩ := h; rfl) | (obtain ⟨_, _, _, _, _, _, _, _, rfl, _⟩ := h; rfl) | (split at h <;> first | rfl | exact h.elim))) ?_, hm, F.kp, b, rfl⟩
  intro cdv A outer s H E hr hgd
  have hu := hu_of hr
  have nd := sc__law_side_by_side.nd
  refine ⟨_, (dss_cons (ds_set (i := 0) nd (de_disp finDM_ok (dps_cons de_str de_non dps_nil)))
      (dss_cons (ds_for (passes_of rfl) rfl (di_range1 T.b_range (da_cons de_int da_nil)) (dg_name 1 nd) (dss_one (ds_asg de_str (dg_sub hu (dv 0) (de_sub hu de_str (de_op od_mod (de_op od_mul (dv 1) de_int) de_int))))))
      (dss_cons (ds_for (passes_of rfl) rfl (di_range1 T.b_range (da_cons de_int da_nil)) (dg_name 1 nd) (dss_one (ds_asg (de_sub hu de_str (dv 1)) (dg_sub hu (dv 0) (de_op od_add de_str (de_callTy cd_str T.b_str (da_cons (dv 1) da_nil)))))))
      (dss_cons (ds_set (i := 2) nd (de_callTy (cd_dict rfl) T.b_dict (da_cons (de_lcG (own := [("_law_k", 1)]) finL_ok rfl nd (di_range1 T.b_range (da_cons de_int da_nil)) (by kernel_rfl) (fun _ _ _ _ _ => (dg_name 1 nd)) (fun _ _ _ _ _ => dts_nil) (fun _ _ _ _ _ => (de_tup (da_cons (de_op od_add de_str (de_callTy cd_str T.b_str (da_cons (dv 1) da_nil))) (da_cons (de_tup (da_cons (de_sub hu (de_callB (cd_sorted rfl hr.units) T.b_sorted (da_cons (dv 0) da_nil)) (de_op od_mod (de_op od_mul (dv 1) de_int) de_int)) (da_cons de_str da_nil))) da_nil))))) da_nil)))
      (dss_one (ds_frz 0 (ds_ret (de_tup (da_cons (dv 0) (da_cons (dv 2) (da_cons de_dic0 (da_cons (de_disp finD_ok (dps_cons de_str (de_tup (da_cons de_str (da_cons de_str da_nil))) dps_nil)) (da_cons (de_tup (da_cons de_str da_nil)) da_nil))))))))))))), ?_⟩
  intro ds w Q h
  obtain ⟨P, rfl, rfl, hq⟩ := h
  have wf := sideP_wf
  refine ⟨_, rfl, Nat.le_of_ble_eq_true rfl, dispM_new (by decide +kernel) fun p hp => ?_⟩
  refine ⟨by decide, by decide, ?_⟩
  refine ⟨fun i env w2 => ∃ (a1 : Option D), env = [some (.ref p), a1, none] ∧ w2 = w.put p (.dic (scK (sideA i))), ⟨_, rfl, rfl⟩, ?_, ?_⟩
  · rintro i x env w2 hx ⟨a1, rfl, rfl⟩
    obtain ⟨hi, ex⟩ := rng_get hx
    rw [Int.zero_add] at ex
    subst ex
    have hi : i < 24 := hi
    obtain ⟨c, hc1, hc2⟩ := sgn_at abcN (j := (i : Int) * 7 % 24) (by omega) (by show _ < (24 : Int); omega)
    have ej : ((i : Int) * 7 % 24).toNat = i * 7 % 24 := by omega
    rw [ej] at hc2
    refine ⟨.inl ⟨by omega, by omega⟩, by decide, sz_nat 24, c, hc1, ?_⟩
    have hl := (side_len i (by omega)).1
    refine .inr ⟨_, .inr _, W.put_at, rfl, by rw [len_mK]; exact Nat.lt_of_lt_of_le hl (sz_nat 100), ?_⟩
    refine ⟨_, rfl, ?_⟩
    rw [W.put_put, hc2]
    exact congrArg (fun t => w.put p (.dic t)) (putD_mK oD (sideA i) (sgnN abcN (i * 7 % 24)) (some "m"))
  rw [rng_len]
  rintro env w2 ⟨a1, rfl, rfl⟩
  refine ⟨by decide, by decide, ?_⟩
  refine ⟨fun i env w2 => ∃ (a1 : Option D), env = [some (.ref p), a1, none] ∧ w2 = w.put p (.dic (scK (sideB i))), ⟨_, rfl, rfl⟩, ?_, ?_⟩
  · rintro i x env w2 hx ⟨a1, rfl, rfl⟩
    obtain ⟨hi, ex⟩ := rng_get hx
    rw [Int.zero_add] at ex
    subst ex
    have hi : i < 5 := hi
    obtain ⟨c, hc1, hc2⟩ := sgn_at adgN (j := (i : Int)) (by omega) (by show _ < (5 : Int); omega)
    rw [Int.toNat_natCast] at hc2
    obtain ⟨n1, n2⟩ := sd_num i (by omega)
    refine ⟨sz_nat 5, c, hc1, n1, le_sz (by show 1 + _ ≤ _; omega), ?_⟩
    have hl := (side_len i (by omega)).2
    refine .inr ⟨_, .inr _, W.put_at, rfl, by rw [len_mK]; exact Nat.lt_of_lt_of_le hl (sz_nat 100), ?_⟩
    refine ⟨_, rfl, ?_⟩
    rw [W.put_put, hc2]
    exact congrArg (fun t => w.put p (.dic t)) (putD_mK oD (sideB i) (nmI "z" (i : Int)) (some (sgnN adgN i)))
  rw [rng_len]
  rintro env w2 ⟨a1, rfl, rfl⟩
  refine ⟨by decide, by decide, ?_⟩
  refine lc_map (items := rangeD 0 12) sdF (by rw [rng_len]; exact sz_nat 12) (fun y hy R hR => ?_) ?_
  · obtain ⟨i, hi, rfl⟩ := List.mem_map.mp hy
    have hi : i < 12 := List.mem_range.mp hi
    obtain ⟨n1, n2⟩ := sd_num i (by omega)
    rw [Int.zero_add] at hR ⊢
    refine ⟨n1, le_sz (by show 1 + _ ≤ _; omega), ?_⟩
    refine .inr ⟨_, _, W.put_at, mK_keys oD (sideB 5), ?_⟩
    rw [side_sort]
    have ha : ∀ j : Nat, j < 12 → sideK[((j : Int) * 5 % 30).toNat]? = some ((sideK[((j : Int) * 5 % 30).toNat]?).getD "a") := by decide +kernel
    have hat : atI (sideK.map D.str) ((i : Int) * 5 % 30) = some (.str ((sideK[((i : Int) * 5 % 30).toNat]?).getD "a")) := by
      refine atI_of (by omega) ?_
      rw [List.getElem?_map, ha i hi]
      rfl
    exact ⟨.inl ⟨by omega, by omega⟩, by decide, _, hat, sz_nat 2, sz_nat 2, hR⟩
  refine ⟨tbK sideP.bn, ⟨_, sd_bn, (merge_new (mK_nodup pD wf.bnd)).symm⟩, ?_⟩
  refine ⟨p, _, rfl, W.put_at, ?_⟩
  have hp : w.m p = none := hp
  have ed : (w.put p (.dic (scK (sideB 5)))).del p = w := W.del_put hp
  refine ⟨sz_nat 2, _, rfl, Nat.le_of_ble_eq_true rfl, disp_new (by decide +kernel) ?_⟩
  refine ⟨sz_nat 1, sz_nat 5, ?_⟩
  show Q (partsD sideP) ((w.put p (.dic (scK (sideB 5)))).del p)
  rw [ed]
  exact hq
  
def sp__law_large : DSp := fun ds w Q => ∃ P, P = largeP ∧ ds = [] ∧ Q (partsD P) w
def lgF (x : D) : D := match x with
  | .int k => .str (nmI "s" k)
  | _ => .non
def lgFsc (x : D) : D := match x with
  | .int k => .tup [.str (nmI "s" (10 + k)), if k = 0 then .non else .str (nmI "s" (10 + (k - 1)))]
  | _ => .non
def lgFbn (x : D) : D := match x with
  | .int k => .tup [.str (nmI "b" (10 + k)), .tup [.str (nmI "s" (10 + k % 30)), .str (nmI "w" (k % 7))]]
  | _ => .non
def lgFus (x : D) : D := match x with
  | .int k => .tup [.str (nmI "u" (10 + k)), .tup [.str (nmI "s" (10 + 29)), .str (nmI "b" (10 + k % 40))]]
  | _ => .non
def lgFou (x : D) : D := match x with
  | .int k => .tup [.str (nmI "o" k), .tup [.str (nmI "s" (10 + 3 * k)), .str (nmI "v" k)]]
  | _ => .non
theorem lg_ss : (rangeD 10 30).map lgF = lgSS.map .str := by kernel_rfl
theorem lg_sc : pairsOf ((rangeD 0 30).map lgFsc) = some (scK largeP.sc) := by kernel_rfl
theorem lg_bn : pairsOf ((rangeD 0 40).map lgFbn) = some (tbK largeP.bn) := by kernel_rfl
theorem lg_us : pairsOf ((rangeD 0 60).map lgFus) = some (tbK largeP.us) := by kernel_rfl
theorem lg_ou : pairsOf ((rangeD 0 6).map lgFou) = some (tbK largeP.ou) := by kernel_rfl
theorem lg_at : ∀ j : Nat, j < 30 → lgSS[j]? = some (nmI "s" (10 + (j : Int))) := by decide +kernel
theorem lg_atI {k : Int} (h0 : 0 ≤ k) (h1 : k < 30) : atI (lgSS.map D.str) k = some (.str (nmI "s" (10 + k))) := by
  refine atI_of h0 ?_
  have := lg_at k.toNat (by omega)
  rw [List.getElem?_map, this, Int.toNat_of_nonneg h0]
  rfl
theorem lg_num : ∀ j : Nat, j < 100 → (j : Int).natAbs.log2 < 1920 ∧ (toString (j : Int) : Str).length ≤ 4 := by decide +kernel
theorem lg_numI {k : Int} (h0 : 0 ≤ k) (h1 : k < 100) : k.natAbs.log2 < 1920 ∧ (toString k : Str).length ≤ 4 := by
  have := lg_num k.toNat (by omega)
  rw [Int.toNat_of_nonneg h0] at this
  exact this
theorem ok__law_large (T : Tx K mg) (F : FnAt K mg "_law_large" s__law_large [])  : DCal P w K mg base 1 "_law_large" 0 sp__law_large := by
  obtain ⟨f, fd, F, hm, b⟩ := F.ex
  refine ⟨f, fd, _, dfn F sc__law_large (by intro ds w Q h; first | exact h.elim | (unfold sp__law_large at h; first | (obtain ⟨rfl, _⟩ := h; rfl) | (obtain ⟨_, rfl, _⟩ := h; rfl) | (obtain ⟨_, _, rfl, _⟩ := h; rfl) | (obtain ⟨_, _, _, rfl, _⟩ := h; rfl) | (obtain ⟨_, _, _, _, rfl, _⟩ := h; rfl) | (obtain ⟨_, _, _, _, _, rfl, _⟩ := h; rfl) | (obtain ⟨_, _, _, _, _, _, rfl, _⟩ := h; rfl) | (obtain ⟨_, _, _, _, _, _, _, rfl, _⟩ := h; rfl) | (obtain ⟨_, _, _, _, _, _, _, _, rfl, _⟩ := h; rfl) | (split at h <;> first | rfl | exact h.elim))) ?_, hm, F.kp, b, rfl⟩
  intro cdv A outer s H E hr hgd
  have hu := hu_of hr
  have nd := sc__law_large.nd
  refine ⟨_, (dss_cons (ds_set (i := 0) nd (de_lcG (own := [("_law_k", 5)]) finL_ok rfl nd (di_range2 T.b_range (da_cons de_int (da_cons de_int da_nil))) (by kernel_rfl) (fun _ _ _ _ _ => (dg_name 5 nd)) (fun _ _ _ _ _ => dts_nil) (fun _ _ _ _ _ => (de_op od_add de_str (de_callTy cd_str T.b_str (da_cons (dv 5) da_nil))))))
      (dss_cons (ds_set (i := 1) nd (de_callTy (cd_dict rfl) T.b_dict (da_cons (de_lcG (own := [("_law_k", 5)]) finL_ok rfl nd (di_range1 T.b_range (da_cons de_int da_nil)) (by kernel_rfl) (fun _ _ _ _ _ => (dg_name 5 nd)) (fun _ _ _ _ _ => dts_nil) (fun _ _ _ _ _ => (de_tup (da_cons (de_sub hu (dv 0) (dv 5)) (da_cons (de_if (dt_cmp (od_eq hr.units) (dv 5) de_int) de_non (de_sub hu (dv 0) (de_op od_sub (dv 5) de_int))) da_nil))))) da_nil)))
      (dss_cons (ds_set (i := 2) nd (de_callTy (cd_dict rfl) T.b_dict (da_cons (de_lcG (own := [("_law_k", 5)]) finL_ok rfl nd (di_range1 T.b_range (da_cons de_int da_nil)) (by kernel_rfl) (fun _ _ _ _ _ => (dg_name 5 nd)) (fun _ _ _ _ _ => dts_nil) (fun _ _ _ _ _ => (de_tup (da_cons (de_op od_add de_str (de_callTy cd_str T.b_str (da_cons (de_op od_add de_int (dv 5)) da_nil))) (da_cons (de_tup (da_cons (de_sub hu (dv 0) (de_op od_mod (dv 5) de_int)) (da_cons (de_op od_add de_str (de_callTy cd_str T.b_str (da_cons (de_op od_mod (dv 5) de_int) da_nil))) da_nil))) da_nil))))) da_nil)))
      (dss_cons (ds_set (i := 3) nd (de_callTy (cd_dict rfl) T.b_dict (da_cons (de_lcG (own := [("_law_k", 5)]) finL_ok rfl nd (di_range1 T.b_range (da_cons de_int da_nil)) (by kernel_rfl) (fun _ _ _ _ _ => (dg_name 5 nd)) (fun _ _ _ _ _ => dts_nil) (fun _ _ _ _ _ => (de_tup (da_cons (de_op od_add de_str (de_callTy cd_str T.b_str (da_cons (de_op od_add de_int (dv 5)) da_nil))) (da_cons (de_tup (da_cons (de_sub hu (dv 0) de_int) (da_cons (de_op od_add de_str (de_callTy cd_str T.b_str (da_cons (de_op od_add de_int (de_op od_mod (dv 5) de_int)) da_nil))) da_nil))) da_nil))))) da_nil)))
      (dss_cons (ds_set (i := 4) nd (de_callTy (cd_dict rfl) T.b_dict (da_cons (de_lcG (own := [("_law_k", 5)]) finL_ok rfl nd (di_range1 T.b_range (da_cons de_int da_nil)) (by kernel_rfl) (fun _ _ _ _ _ => (dg_name 5 nd)) (fun _ _ _ _ _ => dts_nil) (fun _ _ _ _ _ => (de_tup (da_cons (de_op od_add de_str (de_callTy cd_str T.b_str (da_cons (dv 5) da_nil))) (da_cons (de_tup (da_cons (de_sub hu (dv 0) (de_op od_mul de_int (dv 5))) (da_cons (de_op od_add de_str (de_callTy cd_str T.b_str (da_cons (dv 5) da_nil))) da_nil))) da_nil))))) da_nil)))
      (dss_one (ds_ret (de_tup (da_cons (dv 1) (da_cons (dv 2) (da_cons (dv 3) (da_cons (dv 4) (da_cons (de_tup (da_cons de_str (da_cons de_str da_nil))) da_nil))))))))))))), ?_⟩
  intro ds w Q h
  obtain ⟨P, rfl, rfl, hq⟩ := h
  have wf := largeP_wf
  refine ⟨by decide, ?_⟩
  refine lc_map (items := rangeD 10 30) lgF (by rw [rng_len]; exact sz_nat 30) (fun y hy R hR => ?_) ?_
  · obtain ⟨i, hi, rfl⟩ := List.mem_map.mp hy
    have hi : i < 30 := List.mem_range.mp hi
    obtain ⟨n1, n2⟩ := lg_numI (k := 10 + (i : Int)) (by omega) (by omega)
    exact ⟨n1, le_sz (by show 1 + _ ≤ _; omega), hR⟩
  rw [lg_ss]
  refine ⟨by decide, by decide, ?_⟩
  refine lc_map (items := rangeD 0 30) lgFsc (by rw [rng_len]; exact sz_nat 30) (fun y hy R hR => ?_) ?_
  · obtain ⟨i, hi, rfl⟩ := List.mem_map.mp hy
    have hi : i < 30 := List.mem_range.mp hi
    generalize hk : (0 : Int) + (i : Int) = k at hR ⊢
    have k0 : 0 ≤ k := by omega
    have k1 : k < 30 := by omega
    refine ⟨_, lg_atI k0 k1, ?_⟩
    refine ify (fun c => ?_) (fun c => ?_)
    · have e : lgFsc (.int k) = .tup [.str (nmI "s" (10 + k)), .non] := by
        unfold lgFsc
        dsimp only
        rw [if_pos (of_decide_eq_true c)]
      rw [e] at hR
      exact ⟨sz_nat 2, hR⟩
    · have c := of_decide_eq_false c
      have e : lgFsc (.int k) = .tup [.str (nmI "s" (10 + k)), .str (nmI "s" (10 + (k - 1)))] := by
        unfold lgFsc
        dsimp only
        rw [if_neg c]
      rw [e] at hR
      exact ⟨_, lg_atI (k := k - 1) (by omega) (by omega), sz_nat 2, hR⟩
  refine ⟨scK largeP.sc, ⟨_, lg_sc, (merge_new (mK_nodup oD wf.sc.nd)).symm⟩, ?_⟩
  refine ⟨by decide, by decide, ?_⟩
  refine lc_map (items := rangeD 0 40) lgFbn (by rw [rng_len]; exact sz_nat 40) (fun y hy R hR => ?_) ?_
  · obtain ⟨i, hi, rfl⟩ := List.mem_map.mp hy
    have hi : i < 40 := List.mem_range.mp hi
    generalize hk : (0 : Int) + (i : Int) = k at hR ⊢
    have k0 : 0 ≤ k := by omega
    obtain ⟨n1, n2⟩ := lg_numI (k := 10 + k) (by omega) (by omega)
    obtain ⟨n3, n4⟩ := lg_numI (k := k % 7) (by omega) (by omega)
    exact ⟨n1, le_sz (by show 1 + _ ≤ _; omega), by decide, _, lg_atI (k := k % 30) (by omega) (by omega), by decide, n3, le_sz (by show 1 + _ ≤ _; omega), sz_nat 2, sz_nat 2, hR⟩
  refine ⟨tbK largeP.bn, ⟨_, lg_bn, (merge_new (mK_nodup pD wf.bnd)).symm⟩, ?_⟩
  refine ⟨by decide, by decide, ?_⟩
  refine lc_map (items := rangeD 0 60) lgFus (by rw [rng_len]; exact sz_nat 60) (fun y hy R hR => ?_) ?_
  · obtain ⟨i, hi, rfl⟩ := List.mem_map.mp hy
    have hi : i < 60 := List.mem_range.mp hi
    generalize hk : (0 : Int) + (i : Int) = k at hR ⊢
    have k0 : 0 ≤ k := by omega
    obtain ⟨n1, n2⟩ := lg_numI (k := 10 + k) (by omega) (by omega)
    obtain ⟨n3, n4⟩ := lg_numI (k := 10 + k % 40) (by omega) (by omega)
    exact ⟨n1, le_sz (by show 1 + _ ≤ _; omega), _, lg_atI (k := 29) (by omega) (by omega), by decide, n3, le_sz (by show 1 + _ ≤ _; omega), sz_nat 2, sz_nat 2, hR⟩
  refine ⟨tbK largeP.us, ⟨_, lg_us, (merge_new (mK_nodup pD wf.usd)).symm⟩, ?_⟩
  refine ⟨by decide, by decide, ?_⟩
  refine lc_map (items := rangeD 0 6) lgFou (by rw [rng_len]; exact sz_nat 6) (fun y hy R hR => ?_) ?_
  · obtain ⟨i, hi, rfl⟩ := List.mem_map.mp hy
    have hi : i < 6 := List.mem_range.mp hi
    generalize hk : (0 : Int) + (i : Int) = k at hR ⊢
    have k0 : 0 ≤ k := by omega
    obtain ⟨n1, n2⟩ := lg_numI (k := k) (by omega) (by omega)
    exact ⟨n1, le_sz (by show 1 + _ ≤ _; omega), .inl ⟨by decide, by decide⟩, _, lg_atI (k := 3 * k) (by omega) (by omega), n1, le_sz (by show 1 + _ ≤ _; omega), sz_nat 2, sz_nat 2, hR⟩
  refine ⟨tbK largeP.ou, ⟨_, lg_ou, (merge_new (mK_nodup pD wf.oud)).symm⟩, ?_⟩
  exact ⟨sz_nat 2, sz_nat 5, hq⟩
  
abbrev sp__law_pen : DSp := spPen
theorem ok__law_pen (T : Tx K mg) (F : FnAt K mg "_law_pen" s__law_pen ["_law_script"])  : DCal P w K mg base 1 "_law_pen" 1 sp__law_pen := by
  obtain ⟨f, fd, F, hm, b⟩ := F.ex
  refine ⟨f, fd, _, dfn F sc__law_pen (by intro ds w Q h; first | exact h.elim | (unfold sp__law_pen spPen at h; first | (obtain ⟨rfl, _⟩ := h; rfl) | (obtain ⟨_, rfl, _⟩ := h; rfl) | (obtain ⟨_, _, rfl, _⟩ := h; rfl) | (obtain ⟨_, _, _, rfl, _⟩ := h; rfl) | (obtain ⟨_, _, _, _, rfl, _⟩ := h; rfl) | (obtain ⟨_, _, _, _, _, rfl, _⟩ := h; rfl) | (obtain ⟨_, _, _, _, _, _, rfl, _⟩ := h; rfl) | (obtain ⟨_, _, _, _, _, _, _, rfl, _⟩ := h; rfl) | (obtain ⟨_, _, _, _, _, _, _, _, rfl, _⟩ := h; rfl) | (split at h <;> first | rfl | exact h.elim))) ?_, hm, F.kp, b, rfl⟩
  intro cdv A outer s H E hr hgd
  have hu := hu_of hr
  have nd := sc__law_pen.nd
  refine ⟨_, (dss_one (ds_ret (de_mkpen (de_lstM (da_cons (de_callTy (cd_list rfl) T.b_list (da_cons (de_slice (dv 0) do_none (do_some de_int)) da_nil)) (da_cons de_int (da_cons de_int da_nil))))))), ?_⟩
  intro ds w Q h
  unfold sp__law_pen spPen at h
  split at h
  · rename_i xs
    obtain ⟨ns, hi, hl, hn, kk⟩ := h
    refine ⟨sz_nat 3, fun p hp => ⟨_, ns.take 60, W.put_at, ?_, by rw [List.length_take]; omega, ?_⟩⟩
    · rw [cut_to (by decide)]; exact ints_take 60 hi
    · have e := W.del_put (o := MO.lst [D.lst (DL.cutD xs none (some 60)), D.int 0, D.int 0]) hp
      rw [e]
      exact kk
  · exact h.elim
  
abbrev sp_law : DSp := spLaw
def revD (x : D) : D := match x with
  | .dic kvs => .dic kvs.reverse
  | _ => .non
theorem ok_law (T : Tx K mg) (F : FnAt K mg "law" s_law ["_law_script"]) (C_Program___eq__ : DMet P w K mg base 2 "Program" "__eq__" 2 sp_Program___eq__) (C__law_program : DCal P w K mg base 6 "_law_program" 1 sp__law_program) (C_format_program : DCal P w K mg base 2 "format_program" 1 sp_format_program) (C__law_turned : DCal P w K mg base 1 "_law_turned" 1 sp__law_turned) (C__law_lines : DCal P w K mg base 2 "_law_lines" 1 sp__law_lines) (C__law_parts : DCal P w K mg base 4 "_law_parts" 2 sp__law_parts) (C__law_side_by_side : DCal P w K mg base 1 "_law_side_by_side" 0 sp__law_side_by_side) (C__law_large : DCal P w K mg base 1 "_law_large" 0 sp__law_large) (C__law_pen : DCal P w K mg base 1 "_law_pen" 1 sp__law_pen) : DCal P w K mg base 7 "law" 1 sp_law := by
  obtain ⟨f, fd, F, hm, b⟩ := F.ex
  refine ⟨f, fd, _, dfn F sc_law (by intro ds w Q h; obtain ⟨_, rfl, _⟩ := h; rfl) ?_, hm, F.kp, b, rfl⟩
  intro cdv A outer s H E hr hgd
  have hu := hu_of hr
  have nd := sc_law.nd
  refine ⟨_, (dss_cons (ds_set (i := 1) nd (de_call (DCal.mono C__law_pen (by decide)) hr hgd (takes_of rfl rfl rfl rfl) (da_cons (dv 0) da_nil)))
      (dss_cons (ds_set (i := 2) nd (de_op od_add (de_lcG (own := [("_law_turn", 9)]) finL_ok rfl nd (di_range1 T.b_range (da_cons de_int da_nil)) (by kernel_rfl) (fun _ _ _ _ _ => (dg_name 9 nd)) (fun _ _ _ _ _ => dts_nil) (fun _ _ _ _ _ => (de_call (DCal.mono C__law_parts (by decide)) hr hgd takes0 (da_cons (dv 1) (da_cons de_int da_nil))))) (de_lst (da_cons (de_call0 (DCal.mono C__law_large (by decide)) hr hgd (takes_of rfl rfl rfl rfl)) (da_cons (de_call0 (DCal.mono C__law_side_by_side (by decide)) hr hgd (takes_of rfl rfl rfl rfl)) da_nil)))))
      (dss_cons (ds_for (passes_of rfl) rfl (di_any (dv 2)) (dg_name 3 nd) (dss_cons (ds_set (i := 4) nd (de_join de_str (de_call (DCal.mono C__law_lines (by decide)) hr hgd (takes_unl (takes_of rfl rfl rfl rfl)) (da_cons (dv 3) da_nil))))
      (dss_cons (ds_set (i := 5) nd (de_callTy cd_tuple T.b_tuple (da_cons (de_op od_add (de_lcG (own := [("_law_some", 6)]) finL_ok rfl nd (di_any (de_slice (dv 3) do_none (do_some de_int))) (by kernel_rfl) (fun _ _ _ _ _ => (dg_name 6 nd)) (fun _ _ _ _ _ => dts_nil) (fun _ _ _ _ _ => (de_call (DCal.mono C__law_turned (by decide)) hr hgd takes0 (da_cons (dv 6) da_nil)))) (de_lst (da_cons (de_revT (de_sub hu (dv 3) de_int)) da_nil))) da_nil)))
      (dss_one (ds_for (passes_of rfl) rfl (di_tup (de_tup (da_cons (dv 3) (da_cons (dv 5) da_nil)))) (dg_name 6 nd) (dss_cons (ds_set (i := 7) nd (de_call (DCal.mono C__law_program (by decide)) hr hgd (takes_unl (takes_unl (takes_of rfl rfl rfl rfl))) (da_cons (dv 6) da_nil)))
      (dss_cons (ds_for (passes_of rfl) rfl (di_range1 T.b_range (da_cons de_int da_nil)) (dg_name 8 nd) (dss_one (ds_if (dt_cmp (od_ne hr.units) (de_call (DCal.mono C_format_program (by decide)) hr hgd (takes_unl (takes_unl (takes_unl (takes_of rfl rfl rfl rfl)))) (da_cons (dv 7) da_nil)) (dv 4)) (dss_one (ds_ret de_bl)) dss_nil)))
      (dss_one (ds_if (dt_cmp (od_neOwn T.n_Program (DMet.mono C_Program___eq__ (by decide)) hr hgd) (dv 7) (de_call (DCal.mono C__law_program (by decide)) hr hgd (takes_unl (takes_unl (takes_of rfl rfl rfl rfl))) (da_cons (dv 3) da_nil))) (dss_one (ds_ret de_bl)) dss_nil)))))))))
      (dss_one (ds_ret de_bl))))), ?_⟩
  intro ds w Q h
  obtain ⟨ns, rfl, hl, hn0, kk⟩ := h
  refine ⟨ns, intsOf_map ns, hl, hn0, ?_⟩
  refine ⟨by decide, by decide, ?_⟩
  refine lc_rngP (lo := 0) (n := 4) 80 (fun k x => ∃ P, x = partsD P ∧ WF P) (by decide) (fun k hk j hj R hR => ?_) fun acc j hal hP hj => ?_
  · refine ⟨6, rfl, by decide, by show w.n + j + 100 < 2 ^ 31; omega, fun P j1 dr _ hj1 => ?_⟩
    have q := hR _ j1 ⟨P, rfl, dr.wf⟩ hj1
    refine (congrArg (fun s => R (partsD P) s) ?_).mp q
    show W.mk _ (w.n + (j + j1)) _ = W.mk _ (w.n + j + j1) _
    rw [Nat.add_assoc]
    rfl
  have hal : acc.length = 4 := hal
  refine ⟨largeP, rfl, rfl, sideP, rfl, rfl, sz_nat 2, le_sz (by rw [hal]; decide), ?_⟩
  have hrows : ∀ x ∈ acc ++ [partsD largeP, partsD sideP], ∃ P, x = partsD P ∧ WF P := fun x hx => by
    rcases List.mem_append.mp hx with hx | hx
    · obtain ⟨k, hk⟩ := List.getElem?_of_mem hx
      exact hP k x hk
    · simp only [List.mem_cons, List.not_mem_nil, or_false] at hx
      rcases hx with rfl | rfl
      · exact ⟨_, rfl, largeP_wf⟩
      · exact ⟨_, rfl, sideP_wf⟩
  generalize acc ++ [partsD largeP, partsD sideP] = rows at hrows ⊢
  refine ⟨fun i env w2 => ∃ (a0 a3 a4 a5 a6 a7 a8 : Option D), env = [a0, some .pen, some (.lst rows), a3, a4, a5, a6, a7, a8, none], ⟨_, _, _, _, _, _, _, rfl⟩, ?_, ?_⟩
  · rintro i x env w2 hx ⟨a0, a3, a4, a5, a6, a7, a8, rfl⟩
    obtain ⟨P, rfl, wf⟩ := hrows x (List.mem_of_getElem? hx)
    refine ⟨P, _, rfl, wf, .inr rfl, _, strsOf_strs _, text_fits wf.sort, ?_⟩
    have ec : DL.cutD [.dic (scK P.sc), .dic (tbK P.bn), .dic (tbK P.us), .dic (tbK P.ou), .tup (P.rs.map .str)] none (some 4) = [.dic (scK P.sc), .dic (tbK P.bn), .dic (tbK P.us), .dic (tbK P.ou)] := by
      rw [cut_to (by decide)]
      rfl
    refine lc_map (items := DL.cutD [.dic (scK P.sc), .dic (tbK P.bn), .dic (tbK P.us), .dic (tbK P.ou), .tup (P.rs.map .str)] none (some 4)) revD (by rw [ec]; exact sz_nat 4) (fun y hy R hR => ?_) ?_
    · rw [ec] at hy
      simp only [List.mem_cons, List.not_mem_nil, or_false] at hy
      rcases hy with rfl | rfl | rfl | rfl
      · exact ⟨_, rfl, mK_nodup oD wf.sc.nd, hR⟩
      · exact ⟨_, rfl, mK_nodup pD wf.bnd, hR⟩
      · exact ⟨_, rfl, mK_nodup pD wf.usd, hR⟩
      · exact ⟨_, rfl, mK_nodup pD wf.oud, hR⟩
    rw [ec]
    refine ⟨_, rfl, sz_nat 1, sz_nat 5, ?_⟩
    have er : [D.dic (scK P.sc), .dic (tbK P.bn), .dic (tbK P.us), .dic (tbK P.ou)].map revD ++ [.tup (P.rs.map D.str).reverse] = [D.dic (scK (revP P).sc), .dic (tbK (revP P).bn), .dic (tbK (revP P).us), .dic (tbK (revP P).ou), .tup ((revP P).rs.map .str)] := by
      show [D.dic (scK P.sc).reverse, .dic (tbK P.bn).reverse, .dic (tbK P.us).reverse, .dic (tbK P.ou).reverse, .tup (P.rs.map D.str).reverse] = _
      rw [show (scK P.sc).reverse = scK P.sc.reverse from mK_reverse oD _, show (tbK P.bn).reverse = tbK P.bn.reverse from mK_reverse pD _, show (tbK P.us).reverse = tbK P.us.reverse from mK_reverse pD _, show (tbK P.ou).reverse = tbK P.ou.reverse from mK_reverse pD _, ← List.map_reverse]
      rfl
    rw [er]
    have wfr := wf.perm (revP_perm P)
    have esr := sortP_perm wf (revP_perm P)
    refine ⟨sz_nat 2, ?_⟩
    refine ⟨fun i2 env w3 => ∃ (a6 a7 a8 : Option D), env = [a0, some .pen, some (.lst rows), some (partsD P), some (.str (textN (sortP P))), some (partsD (revP P)), a6, a7, a8, none], ⟨_, _, _, rfl⟩, ?_, ?_⟩
    · rintro i2 x2 env w3 hx2 ⟨a6, a7, a8, rfl⟩
      obtain ⟨P2, rfl, wf2, es2⟩ : ∃ P2, x2 = partsD P2 ∧ WF P2 ∧ sortP P2 = sortP P := by
        have hm := List.mem_of_getElem? hx2
        simp only [List.mem_cons, List.not_mem_nil, or_false] at hm
        rcases hm with rfl | rfl
        · exact ⟨P, rfl, wf, rfl⟩
        · exact ⟨revP P, rfl, wfr, esr⟩
      refine ⟨P2, _, rfl, wf2, .inr rfl, ?_⟩
      rw [es2]
      refine ⟨by decide, by decide, ?_⟩
      refine ⟨fun i3 env w4 => ∃ (a8 : Option D), env = [a0, some .pen, some (.lst rows), some (partsD P), some (.str (textN (sortP P))), some (partsD (revP P)), some (partsD P2), some (progD (sortP P)), a8, none], ⟨_, rfl⟩, ?_, ?_⟩
      · rintro i3 x3 env w4 hx3 ⟨a8, rfl⟩
        refine ⟨sortP P, rfl, wf.sort, ?_⟩
        refine ifne (fun c => absurd rfl (of_decide_eq_false c)) (fun _ => ?_)
        exact ⟨_, rfl⟩
      · rintro env w4 ⟨a8, rfl⟩
        refine ⟨P, _, rfl, wf, .inr rfl, ?_⟩
        refine ⟨_, _, rfl, rfl, sortP P, sortP P, rfl, wf.sort, wf.sort, ord_sort P, ord_sort P, _, rfl, ?_⟩
        refine ifne (fun c => absurd rfl (of_decide_eq_false c)) (fun _ => ?_)
        exact ⟨_, _, _, rfl⟩
    · rintro env w3 ⟨a6, a7, a8, rfl⟩
      exact ⟨_, _, _, _, _, _, _, rfl⟩
  rintro env w2 ⟨a0, a3, a4, a5, a6, a7, a8, rfl⟩
  exact kk _
  
end Lk07
open PySem PySem.W PyProof.Rows DL in
theorem PySem.Challenge.cw_scopenames_k07_programs_formatted_holds : PySem.Challenge.rw_scopenames_k07_programs_formatted.Holds := by
  w_on; o_law; k_head; (case hw => w_witness2)
  k_fill
  refine walkG (l := PySem.Challenge.rw_scopenames_k07_programs_formatted) (k := 7) rfl rfl ⟨rfl, by decide, by decide⟩ (fun w h Y => PySem.W.kIn_of Y) ?F
  case F =>
    intro w mg h KX G base
    refine' Cl.ofC "Program" KX G ?aC ?pg ?hd ?po ?sa (fun k_Program h_Program m_Program => ?r_Program)
    (case aC => k_is)
    (case pg => k_is)
    (case hd => k_is)
    (case po => k_is)
    (case sa => k_is)
    refine' thenT (T := fun K => Lk07.Tx K mg) KX ?T (fun T => ?rT)
    case T =>
      refine' ⟨Fld.of k_Program h_Program ?f_Program_blocked, Fld.of k_Program h_Program ?f_Program_declared, Fld.of k_Program h_Program ?f_Program_outside, Fld.of k_Program h_Program ?f_Program_parents, Fld.of k_Program h_Program ?f_Program_targets, IsX.of k_Program h_Program m_Program ?i1_Program ?i2_Program ?i3_Program ?i4_Program ?i5_Program ?i6_Program, NeX.of k_Program ?n1_Program ?n2_Program, PySem.W.mg_none_of KX G ?b_all, PySem.W.mg_none_of KX G ?b_any, PySem.W.mg_none_of KX G ?b_dict, PySem.W.mg_none_of KX G ?b_isinstance, PySem.W.mg_none_of KX G ?b_len, PySem.W.mg_none_of KX G ?b_list, PySem.W.mg_none_of KX G ?b_range, PySem.W.mg_none_of KX G ?b_set, PySem.W.mg_none_of KX G ?b_sorted, PySem.W.mg_none_of KX G ?b_str, PySem.W.mg_none_of KX G ?b_tuple, cst_str KX G ?c_DIGITS, cst_str KX G ?c_LETTERS, cst_int KX G ?c_MAX_WORD, cst_str KX G ?c_NO_PARENT⟩
      (case f_Program_blocked => k_is)
      (case f_Program_declared => k_is)
      (case f_Program_outside => k_is)
      (case f_Program_parents => k_is)
      (case f_Program_targets => k_is)
      (case i1_Program => k_is)
      (case i2_Program => k_is)
      (case i3_Program => k_is)
      (case i4_Program => k_is)
      (case i5_Program => k_is)
      (case i6_Program => k_is)
      (case n1_Program => k_is)
      (case n2_Program => k_is)
      (case b_all => k_is)
      (case b_any => k_is)
      (case b_dict => k_is)
      (case b_isinstance => k_is)
      (case b_len => k_is)
      (case b_list => k_is)
      (case b_range => k_is)
      (case b_set => k_is)
      (case b_sorted => k_is)
      (case b_str => k_is)
      (case b_tuple => k_is)
      (case c_DIGITS => k_is)
      (case c_LETTERS => k_is)
      (case c_MAX_WORD => k_is)
      (case c_NO_PARENT => k_is)
    refine' FnMe.ofC "Program" "parts" "Program.parts" Lk07.s_Program_parts ["self"] k_Program h_Program (fun _ _ _ _ _ _ us hl => match us, hl with | [_], _ => rfl) ?a ?i ?l ?c ?k (fun F_Program_parts => ?r_Program_parts)
    (case a => k_is)
    (case i => k_is)
    (case l => k_is)
    (case c => k_is)
    (case k => k_is)
    refine' FnMe.ofC "Program" "__eq__" "Program.__eq__" Lk07.s_Program___eq__ ["self", "other"] k_Program h_Program (fun _ _ _ _ _ _ us hl => match us, hl with | [_, _], _ => rfl) ?a ?i ?l ?c ?k (fun F_Program___eq__ => ?r_Program___eq__)
    (case a => k_is)
    (case i => k_is)
    (case l => k_is)
    (case c => k_is)
    (case k => k_is)
    refine' FnAt.ofC "ascending" Lk07.s_ascending ["table"] KX G (fun _ _ _ _ _ _ us hl => match us, hl with | [_], _ => rfl) ?a ?l ?c ?k (fun F_ascending => ?r_ascending)
    (case a => k_is)
    (case l => k_is)
    (case c => k_is)
    (case k => k_is)
    refine' FnAt.ofC "is_word" Lk07.s_is_word ["thing"] KX G (fun _ _ _ _ _ _ us hl => match us, hl with | [_], _ => rfl) ?a ?l ?c ?k (fun F_is_word => ?r_is_word)
    (case a => k_is)
    (case l => k_is)
    (case c => k_is)
    (case k => k_is)
    refine' FnAt.ofC "are_words" Lk07.s_are_words ["thing"] KX G (fun _ _ _ _ _ _ us hl => match us, hl with | [_], _ => rfl) ?a ?l ?c ?k (fun F_are_words => ?r_are_words)
    (case a => k_is)
    (case l => k_is)
    (case c => k_is)
    (case k => k_is)
    refine' FnAt.ofC "is_key" Lk07.s_is_key ["table", "thing"] KX G (fun _ _ _ _ _ _ us hl => match us, hl with | [_, _], _ => rfl) ?a ?l ?c ?k (fun F_is_key => ?r_is_key)
    (case a => k_is)
    (case l => k_is)
    (case c => k_is)
    (case k => k_is)
    refine' FnAt.ofC "is_pair" Lk07.s_is_pair ["thing"] KX G (fun _ _ _ _ _ _ us hl => match us, hl with | [_], _ => rfl) ?a ?l ?c ?k (fun F_is_pair => ?r_is_pair)
    (case a => k_is)
    (case l => k_is)
    (case c => k_is)
    (case k => k_is)
    refine' FnAt.ofC "are_bindings" Lk07.s_are_bindings ["scopes", "thing"] KX G (fun _ _ _ _ _ _ us hl => match us, hl with | [_, _], _ => rfl) ?a ?l ?c ?k (fun F_are_bindings => ?r_are_bindings)
    (case a => k_is)
    (case l => k_is)
    (case c => k_is)
    (case k => k_is)
    refine' FnAt.ofC "way_out" Lk07.s_way_out ["scopes", "scope"] KX G (fun _ _ _ _ _ _ us hl => match us, hl with | [_, _], _ => rfl) ?a ?l ?c ?k (fun F_way_out => ?r_way_out)
    (case a => k_is)
    (case l => k_is)
    (case c => k_is)
    (case k => k_is)
    refine' FnAt.ofC "are_uses" Lk07.s_are_uses ["scopes", "bindings", "thing"] KX G (fun _ _ _ _ _ _ us hl => match us, hl with | [_, _, _], _ => rfl) ?a ?l ?c ?k (fun F_are_uses => ?r_are_uses)
    (case a => k_is)
    (case l => k_is)
    (case c => k_is)
    (case k => k_is)
    refine' FnAt.ofC "is_tree" Lk07.s_is_tree ["thing"] KX G (fun _ _ _ _ _ _ us hl => match us, hl with | [_], _ => rfl) ?a ?l ?c ?k (fun F_is_tree => ?r_is_tree)
    (case a => k_is)
    (case l => k_is)
    (case c => k_is)
    (case k => k_is)
    refine' FnAt.ofC "is_program" Lk07.s_is_program ["scopes", "bindings", "uses", "outer", "reserved"] KX G (fun _ _ _ _ _ _ us hl => match us, hl with | [_, _, _, _, _], _ => rfl) ?a ?l ?c ?k (fun F_is_program => ?r_is_program)
    (case a => k_is)
    (case l => k_is)
    (case c => k_is)
    (case k => k_is)
    refine' FnMk.ofC "Program" "Program.__init__" Lk07.s_Program___init__ ["self", "scopes", "bindings", "uses", "outer", "reserved"] k_Program m_Program (fun _ _ _ _ _ _ us hl => match us, hl with | [_, _, _, _, _, _], _ => rfl) ?mk ?kp ?a ?i ?l ?c ?k (fun F_Program___init__ => ?r_Program___init__)
    (case mk => k_is)
    (case kp => k_is)
    (case a => k_is)
    (case i => k_is)
    (case l => k_is)
    (case c => k_is)
    (case k => k_is)
    refine' FnAt.ofC "_law_program" Lk07.s__law_program ["_law_parts_here"] KX G (fun _ _ _ _ _ _ us hl => match us, hl with | [_], _ => rfl) ?a ?l ?c ?k (fun F__law_program => ?r__law_program)
    (case a => k_is)
    (case l => k_is)
    (case c => k_is)
    (case k => k_is)
    refine' FnAt.ofC "scope_lines" Lk07.s_scope_lines ["program"] KX G (fun _ _ _ _ _ _ us hl => match us, hl with | [_], _ => rfl) ?a ?l ?c ?k (fun F_scope_lines => ?r_scope_lines)
    (case a => k_is)
    (case l => k_is)
    (case c => k_is)
    (case k => k_is)
    refine' FnAt.ofC "format_program" Lk07.s_format_program ["program"] KX G (fun _ _ _ _ _ _ us hl => match us, hl with | [_], _ => rfl) ?a ?l ?c ?k (fun F_format_program => ?r_format_program)
    (case a => k_is)
    (case l => k_is)
    (case c => k_is)
    (case k => k_is)
    refine' FnAt.ofC "_law_turned" Lk07.s__law_turned ["_law_some"] KX G (fun _ _ _ _ _ _ us hl => match us, hl with | [_], _ => rfl) ?a ?l ?c ?k (fun F__law_turned => ?r__law_turned)
    (case a => k_is)
    (case l => k_is)
    (case c => k_is)
    (case k => k_is)
    refine' FnAt.ofC "_law_scope_order" Lk07.s__law_scope_order ["_law_tree_here"] KX G (fun _ _ _ _ _ _ us hl => match us, hl with | [_], _ => rfl) ?a ?l ?c ?k (fun F__law_scope_order => ?r__law_scope_order)
    (case a => k_is)
    (case l => k_is)
    (case c => k_is)
    (case k => k_is)
    refine' FnAt.ofC "_law_lines" Lk07.s__law_lines ["_law_parts_here"] KX G (fun _ _ _ _ _ _ us hl => match us, hl with | [_], _ => rfl) ?a ?l ?c ?k (fun F__law_lines => ?r__law_lines)
    (case a => k_is)
    (case l => k_is)
    (case c => k_is)
    (case k => k_is)
    refine' FnAt.ofC "_law_next" Lk07.s__law_next ["_law_pen_here"] KX G (fun _ _ _ _ _ _ us hl => match us, hl with | [_], _ => rfl) ?a ?l ?c ?k (fun F__law_next => ?r__law_next)
    (case a => k_is)
    (case l => k_is)
    (case c => k_is)
    (case k => k_is)
    refine' FnAt.ofC "_law_draw" Lk07.s__law_draw ["_law_pen_here", "_law_below"] KX G (fun _ _ _ _ _ _ us hl => match us, hl with | [_, _], _ => rfl) ?a ?l ?c ?k (fun F__law_draw => ?r__law_draw)
    (case a => k_is)
    (case l => k_is)
    (case c => k_is)
    (case k => k_is)
    refine' FnAt.ofC "_law_outer" Lk07.s__law_outer ["_law_pen_here", "_law_tree_here"] KX G (fun _ _ _ _ _ _ us hl => match us, hl with | [_, _], _ => rfl) ?a ?l ?c ?k (fun F__law_outer => ?r__law_outer)
    (case a => k_is)
    (case l => k_is)
    (case c => k_is)
    (case k => k_is)
    refine' FnAt.ofC "_law_way" Lk07.s__law_way ["_law_tree_here", "_law_scope"] KX G (fun _ _ _ _ _ _ us hl => match us, hl with | [_, _], _ => rfl) ?a ?l ?c ?k (fun F__law_way => ?r__law_way)
    (case a => k_is)
    (case l => k_is)
    (case c => k_is)
    (case k => k_is)
    refine' FnAt.ofC "_law_uses" Lk07.s__law_uses ["_law_pen_here", "_law_tree_here", "_law_binds_here", "_law_tally"] KX G (fun _ _ _ _ _ _ us hl => match us, hl with | [_, _, _, _], _ => rfl) ?a ?l ?c ?k (fun F__law_uses => ?r__law_uses)
    (case a => k_is)
    (case l => k_is)
    (case c => k_is)
    (case k => k_is)
    refine' FnAt.ofC "_law_binds" Lk07.s__law_binds ["_law_pen_here", "_law_tree_here", "_law_tally"] KX G (fun _ _ _ _ _ _ us hl => match us, hl with | [_, _, _], _ => rfl) ?a ?l ?c ?k (fun F__law_binds => ?r__law_binds)
    (case a => k_is)
    (case l => k_is)
    (case c => k_is)
    (case k => k_is)
    refine' FnAt.ofC "_law_tree" Lk07.s__law_tree ["_law_pen_here", "_law_tally"] KX G (fun _ _ _ _ _ _ us hl => match us, hl with | [_, _], _ => rfl) ?a ?l ?c ?k (fun F__law_tree => ?r__law_tree)
    (case a => k_is)
    (case l => k_is)
    (case c => k_is)
    (case k => k_is)
    refine' FnAt.ofC "_law_parts" Lk07.s__law_parts ["_law_pen_here", "_law_most"] KX G (fun _ _ _ _ _ _ us hl => match us, hl with | [_, _], _ => rfl) ?a ?l ?c ?k (fun F__law_parts => ?r__law_parts)
    (case a => k_is)
    (case l => k_is)
    (case c => k_is)
    (case k => k_is)
    refine' FnAt.ofC "_law_side_by_side" Lk07.s__law_side_by_side [] KX G (fun _ _ _ _ _ _ us hl => match us, hl with | [], _ => rfl) ?a ?l ?c ?k (fun F__law_side_by_side => ?r__law_side_by_side)
    (case a => k_is)
    (case l => k_is)
    (case c => k_is)
    (case k => k_is)
    refine' FnAt.ofC "_law_large" Lk07.s__law_large [] KX G (fun _ _ _ _ _ _ us hl => match us, hl with | [], _ => rfl) ?a ?l ?c ?k (fun F__law_large => ?r__law_large)
    (case a => k_is)
    (case l => k_is)
    (case c => k_is)
    (case k => k_is)
    refine' FnAt.ofC "_law_pen" Lk07.s__law_pen ["_law_script"] KX G (fun _ _ _ _ _ _ us hl => match us, hl with | [_], _ => rfl) ?a ?l ?c ?k (fun F__law_pen => ?r__law_pen)
    (case a => k_is)
    (case l => k_is)
    (case c => k_is)
    (case k => k_is)
    refine' FnAt.ofC "law" Lk07.s_law ["_law_script"] KX G (fun _ _ _ _ _ _ us hl => match us, hl with | [_], _ => rfl) ?a ?l ?c ?k (fun F_law => ?r_law)
    (case a => k_is)
    (case l => k_is)
    (case c => k_is)
    (case k => k_is)
    have C_Program_parts := Lk07.ok_Program_parts (P := PySem.Challenge.pw_scopenames_k07_programs_formatted) (w := w) (base := base) T F_Program_parts 
    have C_Program___eq__ := Lk07.ok_Program___eq__ (P := PySem.Challenge.pw_scopenames_k07_programs_formatted) (w := w) (base := base) T F_Program___eq__ C_Program_parts
    have C_ascending := Lk07.ok_ascending (P := PySem.Challenge.pw_scopenames_k07_programs_formatted) (w := w) (base := base) T F_ascending 
    have C_is_word := Lk07.ok_is_word (P := PySem.Challenge.pw_scopenames_k07_programs_formatted) (w := w) (base := base) T F_is_word 
    have C_are_words := Lk07.ok_are_words (P := PySem.Challenge.pw_scopenames_k07_programs_formatted) (w := w) (base := base) T F_are_words C_is_word
    have C_is_key := Lk07.ok_is_key (P := PySem.Challenge.pw_scopenames_k07_programs_formatted) (w := w) (base := base) T F_is_key 
    have C_is_pair := Lk07.ok_is_pair (P := PySem.Challenge.pw_scopenames_k07_programs_formatted) (w := w) (base := base) T F_is_pair 
    have C_are_bindings := Lk07.ok_are_bindings (P := PySem.Challenge.pw_scopenames_k07_programs_formatted) (w := w) (base := base) T F_are_bindings C_is_word C_is_key C_is_pair
    have C_way_out := Lk07.ok_way_out (P := PySem.Challenge.pw_scopenames_k07_programs_formatted) (w := w) (base := base) T F_way_out 
    have C_are_uses := Lk07.ok_are_uses (P := PySem.Challenge.pw_scopenames_k07_programs_formatted) (w := w) (base := base) T F_are_uses C_way_out C_is_key C_is_pair C_is_word
    have C_is_tree := Lk07.ok_is_tree (P := PySem.Challenge.pw_scopenames_k07_programs_formatted) (w := w) (base := base) T F_is_tree C_way_out C_is_key C_is_word
    have C_is_program := Lk07.ok_is_program (P := PySem.Challenge.pw_scopenames_k07_programs_formatted) (w := w) (base := base) T F_is_program C_are_words C_are_bindings C_are_uses C_is_tree
    have C_Program___init__ := Lk07.ok_Program___init__ (P := PySem.Challenge.pw_scopenames_k07_programs_formatted) (w := w) (base := base) T F_Program___init__ C_ascending C_is_program
    have C__law_program := Lk07.ok__law_program (P := PySem.Challenge.pw_scopenames_k07_programs_formatted) (w := w) (base := base) T F__law_program C_Program___init__
    have C_scope_lines := Lk07.ok_scope_lines (P := PySem.Challenge.pw_scopenames_k07_programs_formatted) (w := w) (base := base) T F_scope_lines 
    have C_format_program := Lk07.ok_format_program (P := PySem.Challenge.pw_scopenames_k07_programs_formatted) (w := w) (base := base) T F_format_program C_scope_lines
    have C__law_turned := Lk07.ok__law_turned (P := PySem.Challenge.pw_scopenames_k07_programs_formatted) (w := w) (base := base) T F__law_turned 
    have C__law_scope_order := Lk07.ok__law_scope_order (P := PySem.Challenge.pw_scopenames_k07_programs_formatted) (w := w) (base := base) T F__law_scope_order 
    have C__law_lines := Lk07.ok__law_lines (P := PySem.Challenge.pw_scopenames_k07_programs_formatted) (w := w) (base := base) T F__law_lines C__law_scope_order
    have C__law_next := Lk07.ok__law_next (P := PySem.Challenge.pw_scopenames_k07_programs_formatted) (w := w) (base := base) T F__law_next 
    have C__law_draw := Lk07.ok__law_draw (P := PySem.Challenge.pw_scopenames_k07_programs_formatted) (w := w) (base := base) T F__law_draw C__law_next
    have C__law_outer := Lk07.ok__law_outer (P := PySem.Challenge.pw_scopenames_k07_programs_formatted) (w := w) (base := base) T F__law_outer C__law_draw
    have C__law_way := Lk07.ok__law_way (P := PySem.Challenge.pw_scopenames_k07_programs_formatted) (w := w) (base := base) T F__law_way 
    have C__law_uses := Lk07.ok__law_uses (P := PySem.Challenge.pw_scopenames_k07_programs_formatted) (w := w) (base := base) T F__law_uses C__law_draw C__law_way
    have C__law_binds := Lk07.ok__law_binds (P := PySem.Challenge.pw_scopenames_k07_programs_formatted) (w := w) (base := base) T F__law_binds C__law_draw
    have C__law_tree := Lk07.ok__law_tree (P := PySem.Challenge.pw_scopenames_k07_programs_formatted) (w := w) (base := base) T F__law_tree C__law_draw
    have C__law_parts := Lk07.ok__law_parts (P := PySem.Challenge.pw_scopenames_k07_programs_formatted) (w := w) (base := base) T F__law_parts C__law_outer C__law_draw C__law_uses C__law_binds C__law_tree
    have C__law_side_by_side := Lk07.ok__law_side_by_side (P := PySem.Challenge.pw_scopenames_k07_programs_formatted) (w := w) (base := base) T F__law_side_by_side 
    have C__law_large := Lk07.ok__law_large (P := PySem.Challenge.pw_scopenames_k07_programs_formatted) (w := w) (base := base) T F__law_large 
    have C__law_pen := Lk07.ok__law_pen (P := PySem.Challenge.pw_scopenames_k07_programs_formatted) (w := w) (base := base) T F__law_pen 
    have C_law := Lk07.ok_law (P := PySem.Challenge.pw_scopenames_k07_programs_formatted) (w := w) (base := base) T F_law C_Program___eq__ C__law_program C_format_program C__law_turned C__law_lines C__law_parts C__law_side_by_side C__law_large C__law_pen
    exact C_law
#print axioms PySem.Challenge.cw_scopenames_k07_programs_formatted_holds
