import PyProof.Rows.All
import Wide.All
import OpenK.AllK
import Wide.FinOn
import HandS.ForMost
import HandS.ForExc
import HandS.Walk
import HandS.Lambda
import HandS.IsInst
import HandS.TupAny
import HandS.More
import PyProof.ReprRoads
import HandS.Iter
import HandS.Set
import HandS.TupSets
import KE.SortData
import KE.KDictSum
import HandS.DictComp
import HandS.ExcValue
import HandS.Dict
import HandS.ListItems
import HandS.Style
import HandS.OwnEq
import HandS.DeepEq
import PyProof.InstEq
import KE.DataMinMax
import HandS.Exc
import HandS.ExcOwn
import HandS.ExcIs
import PyProof.ExcBaseAll.ValueError
import HandS.SetFor
import HandS.SetBool
import HandS.TupLe
import PyProof.DictValues
import PyProof.DictWalks
import PyProof.MinMaxWalk
import PyProof.WalkInts
import PyProof.DictUpdate
import HandS.Comp
import PyProof.ListStr
import HandS.ExcInit
import HandS.ExcField
import HandS.ClsMeth
import HandS.FStr
import HandS.Nested
import HandS.SortKw
import KE.SortKeyHeap
import PyProof.TupleOfSeq
import HandS.EndTab
import KE.KNestM
import HandS.Finally
import PyProof.NeKinds
import KE.KSetDisp
import HandS.Text
import KE.GoesEnum
import HandS.ListEq
import KE.KIndexOf
import HandS.TryOnly
import KE.KItemsList
import PyProof.Transfer
import HandS.StrMore
import HandS.NoneIn
import HandS.DictEq
import PyProof.AssignAttr
import HandS.Small
import PySem.Challenge.RW_scopenames_k59_create_and_remove
set_option Elab.async false
set_option linter.all false
set_option maxRecDepth 100000
set_option maxHeartbeats 4000000
/-! DLa: values as trees, what stands for them in the tracked heap, readings over trees. -/
namespace DL
open PySem PySem.Spec PyProof.Rows L2
inductive D where
  | non | bl (b : Bool) | int (i : Int) | str (x : Str) | ty (n : String)
  | lst (xs : List D) | tup (xs : List D) | dic (kvs : List (Key × D)) | obj (n : Str) (fs : List (Str × D))
  | ref (a : Addr) | pen
  | exc (n : Str) (fs : List (Str × D))
inductive MO where
  | lst (xs : List D) | dic (kvs : List (Key × D)) | ins (n : Str) (dx : Addr) (fs : List (Str × D))
  | tab (q : Str)
  | held (o : HO) (kvs : List (Key × D))
  | clo (o : HO) (c1 : Addr) (q : Str) (σ : L2.St) (env : List (Option D))
abbrev Mem := Addr → Option MO
abbrev En := List (Option D)
structure W where
  m : Mem
  n : Nat
  e : En → Str → Option (List (Str × D)) → Mem → Nat → Prop
def W.tick (w : W) (k : Nat) : W := { w with n := w.n + k }
def W.mute (w : W) : W := { w with e := fun _ _ _ _ _ => False }
def W.inn (w : W) (env : En) : W := { w with e := fun _ => w.e env }
def W.rz (w : W) (C : Str) (fs : Option (List (Str × D))) : Prop := w.e [] C fs w.m w.n
def W.as (w w0 : W) : W := { w with e := w0.e }
def updM (M : Mem) (a : Addr) (o : MO) : Mem := fun b => if b = a then some o else M b
def delM (M : Mem) (a : Addr) : Mem := fun b => if b = a then none else M b
def W.put (w : W) (a : Addr) (o : MO) : W := { w with m := updM w.m a o }
def W.del (w : W) (a : Addr) : W := { w with m := delM w.m a }
theorem updM_same {M : Mem} {a : Addr} {o : MO} : updM M a o a = some o := by unfold updM; rw [if_pos rfl]
theorem updM_ne {M : Mem} {a b : Addr} {o : MO} (h : b ≠ a) : updM M a o b = M b := by unfold updM; rw [if_neg h]
theorem updM_upd {M : Mem} {a : Addr} {o u : MO} : updM (updM M a o) a u = updM M a u := by
  funext b; unfold updM; split <;> rfl
theorem updM_comm {M : Mem} {a b : Addr} {o u : MO} (h : a ≠ b) : updM (updM M a o) b u = updM (updM M b u) a o := by
  funext c; unfold updM
  by_cases h1 : c = b
  · subst h1; rw [if_pos rfl, if_neg (Ne.symm h), if_pos rfl]
  · rw [if_neg h1]
    by_cases h2 : c = a
    · rw [if_pos h2, if_pos h2]
    · rw [if_neg h2, if_neg h2, if_neg h1]
theorem delM_upd {M : Mem} {a : Addr} {o : MO} (h : M a = none) : delM (updM M a o) a = M := by
  funext b; unfold delM updM
  by_cases e : b = a
  · rw [if_pos e, e, h]
  · rw [if_neg e, if_neg e]
theorem delM_same {M : Mem} {a : Addr} : delM M a a = none := by unfold delM; rw [if_pos rfl]
theorem delM_ne {M : Mem} {a b : Addr} (h : b ≠ a) : delM M a b = M b := by unfold delM; rw [if_neg h]
theorem W.put_put {w : W} {a : Addr} {o u : MO} : (w.put a o).put a u = w.put a u := by unfold W.put; rw [updM_upd]
theorem W.del_put {w : W} {a : Addr} {o : MO} (h : w.m a = none) : (w.put a o).del a = w := by
  unfold W.put W.del; rw [delM_upd h]
theorem W.put_at {w : W} {a : Addr} {o : MO} : (w.put a o).m a = some o := updM_same
theorem W.put_ne {w : W} {a b : Addr} {o : MO} (h : b ≠ a) : (w.put a o).m b = w.m b := updM_ne h
structure Gh where
  G : Hp
  pm : Addr → Bool
structure Ck where
  L : Addr → Option Obj
  F : Hp
  e : En → Str → Option (List (Str × D)) → Mem → Nat → Prop
def ClsAt (K : PySem.W.Frag) (n : Str) (C : Addr) : Prop := PySem.W.nsIn K mainGlobals n = some (some (.ref C))
theorem ClsAt.eq {K : PySem.W.Frag} {n : Str} {C C' : Addr} (h : ClsAt K n C) (h' : ClsAt K n C') : C' = C := by
  have e := h.symm.trans h'
  cases e; rfl
def ExcO (a : Addr) (cls : Value) (d : Option Addr) : HO := .ext fun h => ∃ (oe : Obj) (vs : Array Value), h.get? a = some oe ∧ oe.cls = cls ∧ oe.dict = d ∧ oe.data = .fields vs
def ExcF (G : Hp) : Option Addr → List (Str × V) → Prop
  | none, xs => xs = []
  | some dx, xs => xs ≠ [] ∧ G dx = some (.xd xs)
mutual
inductive Rep (K : PySem.W.Frag) (g : Gh) : V → D → Prop
  | non : Rep K g .non .non
  | bl (b : Bool) : Rep K g (.bl b) (.bl b)
  | int (i : Int) : Rep K g (.int i) (.int i)
  | str (x : Str) : Rep K g (.str x) (.str x)
  | ty (n : String) : Rep K g (.ty n) (.ty n)
  | lst {a : Addr} {xs : List V} {ds : List D} : SqL K g.G a xs → RepL K g xs ds → Rep K g (.ref a) (.lst ds)
  | tup {a : Addr} {xs : List V} {ds : List D} : SqT K g.G a xs → RepL K g xs ds → Rep K g (.ref a) (.tup ds)
  | dic {a : Addr} {xs : List (Key × V)} {ds : List (Key × D)} : g.G a = some (.dK xs) → RepK K g xs ds → Rep K g (.ref a) (.dic ds)
  | obj {a C dx : Addr} {n : Str} {xs : List (Str × V)} {ds : List (Str × D)} : ClsAt K n C → g.G a = some (.ins C dx xs) → RepF K g xs ds → Rep K g (.ref a) (.obj n ds)
  | ref (a : Addr) : Rep K g (.ref a) (.ref a)
  | pen {a : Addr} : g.pm a = true → Rep K g (.ref a) .pen
  | exc {a C : Addr} {n : Str} {od : Option Addr} {xs : List (Str × V)} {ds : List (Str × D)} : ClsAt K n C → g.G a = some (ExcO a (.ref C) od) → ExcF g.G od xs → RepF K g xs ds → Rep K g (.ref a) (.exc n ds)
inductive RepL (K : PySem.W.Frag) (g : Gh) : List V → List D → Prop
  | nil : RepL K g [] []
  | cons {v : V} {vs : List V} {d : D} {ds : List D} : Rep K g v d → RepL K g vs ds → RepL K g (v :: vs) (d :: ds)
inductive RepK (K : PySem.W.Frag) (g : Gh) : List (Key × V) → List (Key × D) → Prop
  | nil : RepK K g [] []
  | cons {k : Key} {v : V} {vs : List (Key × V)} {d : D} {ds : List (Key × D)} : Rep K g v d → RepK K g vs ds → RepK K g ((k, v) :: vs) ((k, d) :: ds)
inductive RepF (K : PySem.W.Frag) (g : Gh) : List (Str × V) → List (Str × D) → Prop
  | nil : RepF K g [] []
  | cons {k : Str} {v : V} {vs : List (Str × V)} {d : D} {ds : List (Str × D)} : Rep K g v d → RepF K g vs ds → RepF K g ((k, v) :: vs) ((k, d) :: ds)
end
structure Gh.le (g g' : Gh) : Prop where
  G : ∀ a u, g.G a = some u → g'.G a = some u
  pm : ∀ a, g.pm a = true → g'.pm a = true
theorem Gh.le.rfl {g : Gh} : g.le g := ⟨fun _ _ h => h, fun _ h => h⟩
theorem Gh.le.trans {g g1 g2 : Gh} (a : g.le g1) (b : g1.le g2) : g.le g2 := ⟨fun c u h => b.G c u (a.G c u h), fun c h => b.pm c (a.pm c h)⟩
section
variable {K : PySem.W.Frag} {g g' : Gh}
theorem Rd_le (h : g.le g') {a : Addr} {u : HO} (r : Rd g.G a u) : Rd g'.G a u := by
  rcases r with r | ⟨o, r⟩
  · exact .inl (h.G _ _ r)
  · exact .inr ⟨o, h.G _ _ r⟩
theorem SqL_le (h : g.le g') {a : Addr} {xs : List V} (r : SqL K g.G a xs) : SqL K g'.G a xs := r.imp (Rd_le h) id
theorem ExcF_le (h : g.le g') {od : Option Addr} {xs : List (Str × V)} (r : ExcF g.G od xs) : ExcF g'.G od xs := by
  cases od with
  | none => exact r
  | some dx => exact ⟨r.1, h.G _ _ r.2⟩
theorem SqT_le (h : g.le g') {a : Addr} {xs : List V} (r : SqT K g.G a xs) : SqT K g'.G a xs := r.imp (Rd_le h) id
mutual
theorem Rep.le (h : g.le g') : ∀ {v : V} {d : D}, Rep K g v d → Rep K g' v d
  | _, _, .non => .non
  | _, _, .bl b => .bl b
  | _, _, .int i => .int i
  | _, _, .str x => .str x
  | _, _, .ty n => .ty n
  | _, _, .lst s r => .lst (SqL_le h s) (RepL.le h r)
  | _, _, .tup s r => .tup (SqT_le h s) (RepL.le h r)
  | _, _, .dic s r => .dic (h.G _ _ s) (RepK.le h r)
  | _, _, .obj k s r => .obj k (h.G _ _ s) (RepF.le h r)
  | _, _, .ref a => .ref a
  | _, _, .pen s => .pen (h.pm _ s)
  | _, _, .exc k s f r => .exc k (h.G _ _ s) (ExcF_le h f) (RepF.le h r)
theorem RepL.le (h : g.le g') : ∀ {v : List V} {d : List D}, RepL K g v d → RepL K g' v d
  | _, _, .nil => .nil
  | _, _, .cons a r => .cons (Rep.le h a) (RepL.le h r)
theorem RepK.le (h : g.le g') : ∀ {v : List (Key × V)} {d : List (Key × D)}, RepK K g v d → RepK K g' v d
  | _, _, .nil => .nil
  | _, _, .cons a r => .cons (Rep.le h a) (RepK.le h r)
theorem RepF.le (h : g.le g') : ∀ {v : List (Str × V)} {d : List (Str × D)}, RepF K g v d → RepF K g' v d
  | _, _, .nil => .nil
  | _, _, .cons a r => .cons (Rep.le h a) (RepF.le h r)
end
theorem RepL.length : ∀ {v : List V} {d : List D}, RepL K g v d → v.length = d.length
  | _, _, .nil => rfl
  | _, _, .cons _ r => congrArg Nat.succ (RepL.length r)
theorem RepK.length : ∀ {v : List (Key × V)} {d : List (Key × D)}, RepK K g v d → v.length = d.length
  | _, _, .nil => rfl
  | _, _, .cons _ r => congrArg Nat.succ (RepK.length r)
theorem RepF.length : ∀ {v : List (Str × V)} {d : List (Str × D)}, RepF K g v d → v.length = d.length
  | _, _, .nil => rfl
  | _, _, .cons _ r => congrArg Nat.succ (RepF.length r)
theorem RepL.get : ∀ {v : List V} {d : List D} {i : Nat} {x : D}, RepL K g v d → d[i]? = some x → ∃ u, v[i]? = some u ∧ Rep K g u x
  | _, _, _, _, .nil, e => by simp at e
  | _, _, 0, _, .cons a _, e => by simp at e; subst e; exact ⟨_, rfl, a⟩
  | _, _, i + 1, x, .cons _ r, e => by
    obtain ⟨u, h1, h2⟩ := RepL.get (i := i) (x := x) r (by simpa using e)
    exact ⟨u, by simpa using h1, h2⟩
theorem RepL.getV : ∀ {v : List V} {d : List D} {i : Nat} {u : V}, RepL K g v d → v[i]? = some u → ∃ x, d[i]? = some x ∧ Rep K g u x
  | _, _, _, _, .nil, e => by simp at e
  | _, _, 0, _, .cons a _, e => by simp at e; subst e; exact ⟨_, rfl, a⟩
  | _, _, i + 1, x, .cons _ r, e => by
    obtain ⟨u, h1, h2⟩ := RepL.getV (i := i) (u := x) r (by simpa using e)
    exact ⟨u, by simpa using h1, h2⟩
theorem RepL.append : ∀ {v v' : List V} {d d' : List D}, RepL K g v d → RepL K g v' d' → RepL K g (v ++ v') (d ++ d')
  | _, _, _, _, .nil, s => s
  | _, _, _, _, .cons a r, s => .cons a (RepL.append r s)
theorem RepL.take : ∀ {v : List V} {d : List D} (n : Nat), RepL K g v d → RepL K g (v.take n) (d.take n)
  | _, _, 0, _ => .nil
  | _, _, _ + 1, .nil => .nil
  | _, _, n + 1, .cons a r => .cons a (RepL.take n r)
theorem RepL.drop : ∀ {v : List V} {d : List D} (n : Nat), RepL K g v d → RepL K g (v.drop n) (d.drop n)
  | _, _, 0, r => r
  | _, _, _ + 1, .nil => .nil
  | _, _, n + 1, .cons _ r => RepL.drop n r
theorem RepL.reverse : ∀ {v : List V} {d : List D}, RepL K g v d → RepL K g v.reverse d.reverse
  | _, _, .nil => .nil
  | _, _, .cons a r => by
    rw [List.reverse_cons, List.reverse_cons]
    exact RepL.append (RepL.reverse r) (.cons a .nil)
theorem RepL.set : ∀ {v : List V} {d : List D} (n : Nat) {x : V} {y : D}, Rep K g x y → RepL K g v d → RepL K g (v.set n x) (d.set n y)
  | _, _, _, _, _, _, .nil => .nil
  | _, _, 0, _, _, q, .cons _ r => .cons q r
  | _, _, n + 1, _, _, q, .cons a r => .cons a (RepL.set n q r)
theorem RepL.dropLast : ∀ {v : List V} {d : List D}, RepL K g v d → RepL K g v.dropLast d.dropLast := fun {v d} r => by
  rw [List.dropLast_eq_take, List.dropLast_eq_take, r.length]
  exact r.take _
end
inductive RepM (K : PySem.W.Frag) (g : Gh) : MO → HO → Prop
  | lst {xs : List V} {ds : List D} : RepL K g xs ds → RepM K g (.lst ds) (.lst xs)
  | dic {xs : List (Key × V)} {ds : List (Key × D)} : RepK K g xs ds → RepM K g (.dic ds) (.dK xs)
  | ins {C dx : Addr} {n : Str} {xs : List (Str × V)} {ds : List (Str × D)} : ClsAt K n C → RepF K g xs ds → RepM K g (.ins n dx ds) (.ins C dx xs)
  | tab {q : Str} {ps : Array Value} : TriplesOk ps.toList → (∀ (pos : Pos) (cv : Value), codeAmong pos ps.toList = some cv → ∃ c, cv = .ref c ∧ g.G c = some (LamX.CodeO c q)) → RepM K g (.tab q) (.tbl ps)
  | held {od : Obj} {xs : List (Key × V)} {ds : List (Key × D)} : RepK K g xs ds → RepM K g (.held (.frz od (.dK xs)) ds) (.frz od (.dK xs))
  | clo {o : HO} {c1 : Addr} {q : Str} {σ : L2.St} {env : List (Option D)} : env.length = σ.length → (∀ (i : Nat) d, env[i]? = some (some d) → ∃ v, σ[i]? = some (some v) ∧ Rep K g v d) → g.G c1 = some (LamX.CodeO c1 q) → (∃ p, o = .ext p) → RepM K g (.clo o c1 q σ env) o
theorem RepM.le {K : PySem.W.Frag} {g g' : Gh} (h : g.le g') {m : MO} {o : HO} (r : RepM K g m o) : RepM K g' m o := by
  cases r with
  | lst r => exact .lst (r.le h)
  | dic r => exact .dic (r.le h)
  | ins k r => exact .ins k (r.le h)
  | tab t r => exact .tab t fun pos cv e => let ⟨c, a, b⟩ := r pos cv e; ⟨c, a, h.G _ _ b⟩
  | held r => exact .held (r.le h)
  | clo l a k x => exact .clo l (fun i d e => let ⟨v, h1, h2⟩ := a i d e; ⟨v, h1, h2.le h⟩) (h.G _ _ k) x
def PenR (K : PySem.W.Frag) (G : Hp) (xs : List V) (n : Nat) : Prop :=
  ∃ (c : Addr) (ns : List Int) (i : Nat) (r : Int), xs = [.ref c, .int (i : Nat), .int r] ∧ SqL K G c (ns.map V.int) ∧ ns.length ≤ 60 ∧ i ≤ n ∧ 0 ≤ r
structure Rel (K : PySem.W.Frag) (c : Ck) (g : Gh) (w : W) (H : Hp) : Prop where
  imm : ∀ a u, g.G a = some u → (c.L a = none ∧ H a = some u) ∨ ∃ o, c.L a = some o ∧ H a = some (.frz o u)
  lck : ∀ a o, c.L a = some o → ∃ u, g.G a = some (.dK u)
  mu : ∀ a m, w.m a = some m → g.G a = none ∧ c.F a = none ∧ g.pm a = false ∧ ∃ o, H a = some o ∧ RepM K g m o
  frm : ∀ a o, c.F a = some o → H a = some o ∧ g.G a = none ∧ g.pm a = false
  pen : ∀ a, g.pm a = true → g.G a = none ∧ ∃ xs, H a = some (.lst xs) ∧ PenR K g.G xs w.n
  ex : w.e = c.e
section
variable {K : PySem.W.Frag} {c : Ck} {g g' : Gh} {w : W} {H : Hp}
theorem Rel.noG (R : Rel K c g w H) {p : Addr} (h : H p = none) : g.G p = none := by
  cases e : g.G p with
  | none => rfl
  | some u =>
    rcases R.imm p u e with ⟨_, q⟩ | ⟨o, _, q⟩ <;> · rw [h] at q; cases q
theorem Rel.noM (R : Rel K c g w H) {p : Addr} (h : H p = none) : w.m p = none := by
  cases e : w.m p with
  | none => rfl
  | some u =>
    obtain ⟨_, _, _, o, q, _⟩ := R.mu p u e
    rw [h] at q; cases q
theorem Rel.noF (R : Rel K c g w H) {p : Addr} (h : H p = none) : c.F p = none := by
  cases e : c.F p with
  | none => rfl
  | some u =>
    obtain ⟨q, _⟩ := R.frm p u e
    rw [h] at q; cases q
theorem Rel.noP (R : Rel K c g w H) {p : Addr} (h : H p = none) : g.pm p = false := by
  cases e : g.pm p with
  | false => rfl
  | true =>
    obtain ⟨_, xs, q, _⟩ := R.pen p e
    rw [h] at q; cases q
theorem Rel.noL (R : Rel K c g w H) {p : Addr} (h : g.G p = none) : c.L p = none := by
  cases e : c.L p with
  | none => rfl
  | some o =>
    obtain ⟨u, q⟩ := R.lck p o e
    rw [h] at q; cases q
def Gh.add (g : Gh) (p : Addr) (o : HO) : Gh := ⟨upd g.G p o, g.pm⟩
theorem Gh.add_le {p : Addr} {o : HO} (h : g.G p = none) : g.le (g.add p o) :=
  ⟨fun a u e => by
    show upd g.G p o a = some u
    rw [upd_ne (ne_of_none e h)]
    exact e, fun _ e => e⟩
theorem Gh.add_at {p : Addr} {o : HO} : (g.add p o).G p = some o := upd_same
theorem PenR.le {xs : List V} {n n' : Nat} (h : g.le g') (hn : n ≤ n') (r : PenR K g.G xs n) : PenR K g'.G xs n' := by
  obtain ⟨c, ns, i, r, e, s, l, h1, h2⟩ := r
  exact ⟨c, ns, i, r, e, SqL_le h s, l, Nat.le_trans h1 hn, h2⟩
theorem Rel.alloc (R : Rel K c g w H) {p : Addr} {o : HO} (h : H p = none) : Rel K c (g.add p o) w (upd H p o) := by
  have hG := R.noG h
  have le := Gh.add_le (o := o) hG
  have ne : ∀ {a : Addr}, g.pm a = true → a ≠ p := fun {a} e z => by rw [z, R.noP h] at e; cases e
  refine ⟨fun a u e => ?_, fun a q e => ?_, fun a m e => ?_, fun a q e => ?_, fun a e => ?_, R.ex⟩
  · by_cases ha : a = p
    · subst ha
      have e' : upd g.G a o a = some u := e
      rw [upd_same] at e'; cases e'
      exact .inl ⟨R.noL hG, upd_same⟩
    · have e' : upd g.G p o a = some u := e
      rw [upd_ne ha] at e'
      rw [upd_ne ha]
      exact R.imm a u e'
  · obtain ⟨u, q⟩ := R.lck a q e
    exact ⟨u, le.G _ _ q⟩
  · obtain ⟨h1, h2, h3, o', h4, h5⟩ := R.mu a m e
    have ha : a ≠ p := ne_of_none h4 h
    exact ⟨by show upd g.G p o a = none; rw [upd_ne ha]; exact h1, h2, h3, o', by rw [upd_ne ha]; exact h4, h5.le le⟩
  · obtain ⟨h1, h2, h3⟩ := R.frm a q e
    have ha : a ≠ p := ne_of_none h1 h
    exact ⟨by rw [upd_ne ha]; exact h1, by show upd g.G p o a = none; rw [upd_ne ha]; exact h2, h3⟩
  · obtain ⟨h1, xs, h2, h3⟩ := R.pen a e
    have ha : a ≠ p := ne_of_none h2 h
    exact ⟨by show upd g.G p o a = none; rw [upd_ne ha]; exact h1, xs, by rw [upd_ne ha]; exact h2, h3.le le (Nat.le_refl _)⟩
theorem Rel.allocM (R : Rel K c g w H) {p : Addr} {o : HO} {m : MO} (h : H p = none) (r : RepM K g m o) : Rel K c g (w.put p m) (upd H p o) := by
  have hG := R.noG h
  refine ⟨fun a u e => ?_, R.lck, fun a m' e => ?_, fun a q e => ?_, fun a e => ?_, R.ex⟩
  · have ha : a ≠ p := ne_of_none e hG
    rw [upd_ne ha]
    exact R.imm a u e
  · by_cases ha : a = p
    · subst ha
      have e' : updM w.m a m a = some m' := e
      rw [updM_same] at e'; cases e'
      exact ⟨hG, R.noF h, R.noP h, o, upd_same, r⟩
    · have e' : updM w.m p m a = some m' := e
      rw [updM_ne ha] at e'
      obtain ⟨h1, h2, h3, o', h4, h5⟩ := R.mu a m' e'
      exact ⟨h1, h2, h3, o', by rw [upd_ne ha]; exact h4, h5⟩
  · obtain ⟨h1, h2, h3⟩ := R.frm a q e
    exact ⟨by rw [upd_ne (ne_of_none h1 h)]; exact h1, h2, h3⟩
  · obtain ⟨h1, xs, h2, h3⟩ := R.pen a e
    exact ⟨h1, xs, by rw [upd_ne (ne_of_none h2 h)]; exact h2, h3⟩
theorem Rel.write (R : Rel K c g w H) {p : Addr} {o : HO} {m m0 : MO} (h : w.m p = some m0) (r : RepM K g m o) : Rel K c g (w.put p m) (upd H p o) := by
  obtain ⟨hG, hF, hP, o0, h0, _⟩ := R.mu p m0 h
  refine ⟨fun a u e => ?_, R.lck, fun a m' e => ?_, fun a q e => ?_, fun a e => ?_, R.ex⟩
  · have ha : a ≠ p := ne_of_none e hG
    rw [upd_ne ha]
    exact R.imm a u e
  · by_cases ha : a = p
    · subst ha
      have e' : updM w.m a m a = some m' := e
      rw [updM_same] at e'; cases e'
      exact ⟨hG, hF, hP, o, upd_same, r⟩
    · have e' : updM w.m p m a = some m' := e
      rw [updM_ne ha] at e'
      obtain ⟨h1, h2, h3, o', h4, h5⟩ := R.mu a m' e'
      exact ⟨h1, h2, h3, o', by rw [upd_ne ha]; exact h4, h5⟩
  · obtain ⟨h1, h2, h3⟩ := R.frm a q e
    have ha : a ≠ p := fun z => by rw [z, hF] at e; cases e
    exact ⟨by rw [upd_ne ha]; exact h1, h2, h3⟩
  · obtain ⟨h1, xs, h2, h3⟩ := R.pen a e
    have ha : a ≠ p := fun z => by rw [z, hP] at e; cases e
    exact ⟨h1, xs, by rw [upd_ne ha]; exact h2, h3⟩
theorem Rel.freeze (R : Rel K c g w H) {p : Addr} {m : MO} (h : w.m p = some m) : ∃ o, RepM K g m o ∧ g.le (g.add p o) ∧ Rel K c (g.add p o) (w.del p) H := by
  obtain ⟨hG, hF, hP, o, h0, r⟩ := R.mu p m h
  have le := Gh.add_le (o := o) hG
  refine ⟨o, r, le, fun a u e => ?_, fun a q e => ?_, fun a m' e => ?_, fun a q e => ?_, fun a e => ?_, R.ex⟩
  · by_cases ha : a = p
    · subst ha
      have e' : upd g.G a o a = some u := e
      rw [upd_same] at e'; cases e'
      exact .inl ⟨R.noL hG, h0⟩
    · have e' : upd g.G p o a = some u := e
      rw [upd_ne ha] at e'
      exact R.imm a u e'
  · obtain ⟨u, q⟩ := R.lck a q e
    exact ⟨u, le.G _ _ q⟩
  · have ha : a ≠ p := fun z => by
      subst z
      have e' : delM w.m a a = some m' := e
      rw [delM_same] at e'; cases e'
    have e' : delM w.m p a = some m' := e
    rw [delM_ne ha] at e'
    obtain ⟨h1, h2, h3, o', h4, h5⟩ := R.mu a m' e'
    exact ⟨by show upd g.G p o a = none; rw [upd_ne ha]; exact h1, h2, h3, o', h4, h5.le le⟩
  · obtain ⟨h1, h2, h3⟩ := R.frm a q e
    have ha : a ≠ p := fun z => by rw [z, hF] at e; cases e
    exact ⟨h1, by show upd g.G p o a = none; rw [upd_ne ha]; exact h2, h3⟩
  · obtain ⟨h1, xs, h2, h3⟩ := R.pen a e
    have ha : a ≠ p := fun z => by
      have e' : g.pm a = true := e
      rw [z, hP] at e'; cases e'
    exact ⟨by show upd g.G p o a = none; rw [upd_ne ha]; exact h1, xs, h2, h3.le le (Nat.le_refl _)⟩
theorem Rel.drop (R : Rel K c g w H) (p : Addr) : Rel K c g (w.del p) H :=
  ⟨R.imm, R.lck, fun a m e => by
    have ha : a ≠ p := fun z => by
      subst z
      have e' : delM w.m a a = some m := e
      rw [delM_same] at e'; cases e'
    have e' : delM w.m p a = some m := e
    rw [delM_ne ha] at e'
    exact R.mu a m e', R.frm, R.pen, R.ex⟩
theorem Rel.rd (R : Rel K c g w H) {a : Addr} {u : HO} (h : g.G a = some u) : Rd H a u := by
  rcases R.imm a u h with ⟨_, q⟩ | ⟨o, _, q⟩
  · exact .inl q
  · exact .inr ⟨o, q⟩
theorem Rel.sqL (R : Rel K c g w H) {a : Addr} {xs : List V} (h : SqL K g.G a xs) : SqL K H a xs := by
  rcases h with (h | ⟨o, h⟩) | h
  · exact .inl (R.rd h)
  · rcases R.imm a _ h with ⟨_, q⟩ | ⟨o', e, q⟩
    · exact .inl (.inr ⟨o, q⟩)
    · obtain ⟨u, q'⟩ := R.lck a o' e
      rw [h] at q'; cases q'
  · exact .inr h
theorem Rel.sqT (R : Rel K c g w H) {a : Addr} {xs : List V} (h : SqT K g.G a xs) : SqT K H a xs := by
  rcases h with (h | ⟨o, h⟩) | h
  · exact .inl (R.rd h)
  · rcases R.imm a _ h with ⟨_, q⟩ | ⟨o', e, q⟩
    · exact .inl (.inr ⟨o, q⟩)
    · obtain ⟨u, q'⟩ := R.lck a o' e
      rw [h] at q'; cases q'
  · exact .inr h
theorem Rel.ins (R : Rel K c g w H) {a C dx : Addr} {fs : List (Str × V)} (h : g.G a = some (.ins C dx fs)) : H a = some (.ins C dx fs) := by
  rcases R.imm a _ h with ⟨_, q⟩ | ⟨o', e, q⟩
  · exact q
  · obtain ⟨u, q'⟩ := R.lck a o' e
    rw [h] at q'; cases q'
end
end DL
namespace DL
open PySem PySem.Spec PyProof.Rows L2
abbrev St := L2.St
theorem PE_imp {X : Cx} {e : Expr} {t t' : TE} (h : PE X e t) (i : ∀ σ H Q, t' σ H Q → t σ H Q) : PE X e t' := ⟨fun pins s σ H Q I q => h.run pins s σ H Q I (i σ H Q q)⟩
theorem PT_imp {X : Cx} {e : Expr} {t t' : TT} (h : PT X e t) (i : ∀ σ H Q, t' σ H Q → t σ H Q) : PT X e t' := ⟨fun pins s σ H Q I q => h.run pins s σ H Q I (i σ H Q q)⟩
theorem PW_imp {X : Cx} {e : Expr} {t t' : TT} (h : PW X e t) (i : ∀ σ H Q, t' σ H Q → t σ H Q) : PW X e t' := ⟨fun wh pins s σ H Q I q => h.run wh pins s σ H Q I (i σ H Q q)⟩
theorem PA_imp {X : Cx} {e : List Expr} {t t' : TA} (h : PA X e t) (i : ∀ σ H Q, t' σ H Q → t σ H Q) : PA X e t' := ⟨fun po pins s σ H Q I q => h.run po pins s σ H Q I (i σ H Q q)⟩
theorem PS_imp {X : Cx} {e : Stmt} {t t' : TS} (h : PS X e t) (i : ∀ D σ H, t' D σ H → t D σ H) : PS X e t' := ⟨fun pins s σ H D I q => h.run pins s σ H D I (i D σ H q)⟩
theorem PSs_imp {X : Cx} {e : List Stmt} {t t' : TS} (h : PSs X e t) (i : ∀ D σ H, t' D σ H → t D σ H) : PSs X e t' := ⟨fun pins s σ H D I q => h.run pins s σ H D I (i D σ H q)⟩
theorem OpR_or {X : Cx} {f : Value → Value → Sem Value} {r r' : R2} (h : OpR X f r) (h' : OpR X f r') : OpR X f fun x y H Q => r x y H Q ∨ r' x y H Q := fun pins s σ H x y v u Q I rx ry q =>
  q.elim (h pins s σ H x y v u Q I rx ry) (h' pins s σ H x y v u Q I rx ry)
abbrev DK := D → W → Prop
abbrev DTE := En → W → DK → Prop
abbrev DTT := En → W → (Bool → W → Prop) → Prop
abbrev DTA := En → W → (List D → W → Prop) → Prop
structure DEnds where
  nx : En → W → Prop
  rt : DK
  bk : En → W → Prop := fun _ _ => False
  ct : En → W → Prop := fun _ _ => False
abbrev DTS := DEnds → En → W → Prop
structure EnR (K : PySem.W.Frag) (g : Gh) (env : En) (σ : St) : Prop where
  len : env.length = σ.length
  at_ : ∀ (i : Nat) d, env[i]? = some (some d) → ∃ v, σ[i]? = some (some v) ∧ Rep K g v d
theorem EnR.le {K : PySem.W.Frag} {g g' : Gh} (h : g.le g') {env : En} {σ : St} (e : EnR K g env σ) : EnR K g' env σ := ⟨e.len, fun i d q => let ⟨v, a, r⟩ := e.at_ i d q; ⟨v, a, r.le h⟩⟩
theorem EnR.set {K : PySem.W.Frag} {g : Gh} {env : En} {σ : St} (e : EnR K g env σ) {i : Nat} {v : V} {d : D} (r : Rep K g v d) : EnR K g (env.set i (some d)) (σ.set i (some v)) := by
  refine ⟨by rw [List.length_set, List.length_set]; exact e.len, fun j x q => ?_⟩
  by_cases h : i = j
  · subst h
    by_cases hi : i < env.length
    · rw [List.getElem?_set_self hi] at q
      cases q
      exact ⟨v, by rw [List.getElem?_set_self (by rw [← e.len]; exact hi)], r⟩
    · rw [List.getElem?_eq_none (by rw [List.length_set]; omega)] at q
      cases q
  · rw [List.getElem?_set_ne h] at q
    rw [List.getElem?_set_ne h]
    exact e.at_ j x q
theorem EnR.none {K : PySem.W.Frag} {g : Gh} {env : En} {σ : St} (e : EnR K g env σ) (i : Nat) : EnR K g (env.set i none) σ := by
  refine ⟨by rw [List.length_set]; exact e.len, fun j x q => ?_⟩
  by_cases h : i = j
  · subst h
    by_cases hi : i < env.length
    · rw [List.getElem?_set_self hi] at q; cases q
    · rw [List.getElem?_eq_none (by rw [List.length_set]; omega)] at q; cases q
  · rw [List.getElem?_set_ne h] at q
    exact e.at_ j x q
def PQ (K : PySem.W.Frag) (c : Ck) (g : Gh) (Q : DK) (v : V) (H : Hp) : Prop := ∃ g' w d, g.le g' ∧ Rel K c g' w H ∧ Rep K g' v d ∧ Q d w
def PB (K : PySem.W.Frag) (c : Ck) (g : Gh) (Q : Bool → W → Prop) (b : Bool) (H : Hp) : Prop := ∃ g' w, g.le g' ∧ Rel K c g' w H ∧ Q b w
def PL (K : PySem.W.Frag) (c : Ck) (g : Gh) (Q : List D → W → Prop) (vs : List V) (H : Hp) : Prop := ∃ g' w ds, g.le g' ∧ Rel K c g' w H ∧ RepL K g' vs ds ∧ Q ds w
theorem PQ.up {K : PySem.W.Frag} {c : Ck} {g g1 : Gh} {Q : DK} {v : V} {H : Hp} (l : g.le g1) (h : PQ K c g1 Q v H) : PQ K c g Q v H := let ⟨g', w, d, a, b⟩ := h; ⟨g', w, d, l.trans a, b⟩
theorem PB.up {K : PySem.W.Frag} {c : Ck} {g g1 : Gh} {Q : Bool → W → Prop} {v : Bool} {H : Hp} (l : g.le g1) (h : PB K c g1 Q v H) : PB K c g Q v H := let ⟨g', w, a, b⟩ := h; ⟨g', w, l.trans a, b⟩
theorem PL.up {K : PySem.W.Frag} {c : Ck} {g g1 : Gh} {Q : List D → W → Prop} {v : List V} {H : Hp} (l : g.le g1) (h : PL K c g1 Q v H) : PL K c g Q v H := let ⟨g', w, d, a, b⟩ := h; ⟨g', w, d, l.trans a, b⟩
def PX (K : PySem.W.Frag) (c : Ck) (g : Gh) (e : Str → Option (List (Str × D)) → Mem → Nat → Prop) (cls : Value) (d : Option Addr) (H : Hp) : Prop := ∃ g' w C fs, (∃ a, ClsAt K C a ∧ cls = .ref a) ∧ g.le g' ∧ Rel K c g' w H ∧ e C fs w.m w.n ∧
  match d with
  | none => fs = none
  | some dx => ∃ xs ds, xs ≠ [] ∧ g'.G dx = some (.xd xs) ∧ RepF K g' xs ds ∧ fs = some ds
theorem PX.up {K : PySem.W.Frag} {c : Ck} {g g1 : Gh} {e : Str → Option (List (Str × D)) → Mem → Nat → Prop} {cls : Value} {d : Option Addr} {H : Hp} (l : g.le g1) (h : PX K c g1 e cls d H) : PX K c g e cls d H :=
  let ⟨g', w, C, fs, a, b, r⟩ := h; ⟨g', w, C, fs, a, l.trans b, r⟩
structure Bx (K : PySem.W.Frag) (Wv : WX) (c : Ck) (g : Gh) (env : En) (w : W) (σ : St) (H : Hp) : Prop where
  R : Rel K c g w H
  E : EnR K g env σ
  X : ∀ env' σ' H' cls d g', g.le g' → EnR K g' env' σ' → PX K c g' (c.e env') cls d H' → Wv cls d σ' H'
theorem Bx.step {K : PySem.W.Frag} {Wv : WX} {c : Ck} {g g' : Gh} {env : En} {w w' : W} {σ : St} {H H' : Hp} (B : Bx K Wv c g env w σ H) (l : g.le g') (R : Rel K c g' w' H') : Bx K Wv c g' env w' σ H' :=
  ⟨R, B.E.le l, fun env' σ' H' cls d g2 l2 => B.X env' σ' H' cls d g2 (l.trans l2)⟩
theorem Bx.env {K : PySem.W.Frag} {Wv : WX} {c : Ck} {g : Gh} {env env' : En} {w : W} {σ σ' : St} {H : Hp} (B : Bx K Wv c g env w σ H) (E : EnR K g env' σ') : Bx K Wv c g env' w σ' H := ⟨B.R, E, B.X⟩
def liftE (K : PySem.W.Frag) (Wv : WX) (t : DTE) : TE := fun σ H Qv => ∃ c g env w Q, Bx K Wv c g env w σ H ∧ t env w Q ∧ ∀ v H', PQ K c g Q v H' → Qv v H'
def liftT (K : PySem.W.Frag) (Wv : WX) (t : DTT) : TT := fun σ H Qv => ∃ c g env w Q, Bx K Wv c g env w σ H ∧ t env w Q ∧ ∀ v H', PB K c g Q v H' → Qv v H'
def liftA (K : PySem.W.Frag) (Wv : WX) (t : DTA) : TA := fun σ H Qv => ∃ c g env w Q, Bx K Wv c g env w σ H ∧ t env w Q ∧ ∀ v H', PL K c g Q v H' → Qv v H'
structure EndsLe (K : PySem.W.Frag) (Wv : WX) (c : Ck) (g : Gh) (D : DEnds) (Dv : Ends) : Prop where
  nx : ∀ env w σ H g', g.le g' → Bx K Wv c g' env w σ H → D.nx env w → Dv.nx σ H
  rt : ∀ v H, PQ K c g D.rt v H → Dv.rt v H
  bk : ∀ env w σ H g', g.le g' → Bx K Wv c g' env w σ H → D.bk env w → Dv.bk σ H
  ct : ∀ env w σ H g', g.le g' → Bx K Wv c g' env w σ H → D.ct env w → Dv.ct σ H
theorem EndsLe.up {K : PySem.W.Frag} {Wv : WX} {c : Ck} {g g1 : Gh} {D : DEnds} {Dv : Ends} (l : g.le g1) (h : EndsLe K Wv c g D Dv) : EndsLe K Wv c g1 D Dv :=
  ⟨fun env w σ H g' a => h.nx env w σ H g' (l.trans a), fun v H q => h.rt v H (q.up l), fun env w σ H g' a => h.bk env w σ H g' (l.trans a), fun env w σ H g' a => h.ct env w σ H g' (l.trans a)⟩
def liftS (K : PySem.W.Frag) (Wv : WX) (t : DTS) : TS := fun Dv σ H => ∃ c g env w D, Bx K Wv c g env w σ H ∧ t D env w ∧ EndsLe K Wv c g D Dv
structure DE (X : Cx) (Wv : WX) (e : Expr) (t : DTE) : Prop where
  pe : PE X e (liftE X.K Wv t)
structure DT (X : Cx) (Wv : WX) (e : Expr) (t : DTT) : Prop where
  pt : PT X e (liftT X.K Wv t)
structure DW (X : Cx) (Wv : WX) (e : Expr) (t : DTT) : Prop where
  pw : PW X e (liftT X.K Wv t)
structure DA (X : Cx) (Wv : WX) (es : List Expr) (t : DTA) : Prop where
  pa : PA X es (liftA X.K Wv t)
structure DS (X : Cx) (Wv : WX) (st : Stmt) (t : DTS) : Prop where
  ps : PS X st (liftS X.K Wv t)
structure DSs (X : Cx) (Wv : WX) (st : List Stmt) (t : DTS) : Prop where
  ps : PSs X st (liftS X.K Wv t)
section
variable {K : PySem.W.Frag} {Wv : WX} {c : Ck} {g : Gh} {env : En} {w : W} {H : Hp} {σ : St}
theorem bindE {t : DTE} {Q : DK} {Qv : VK} (B : Bx K Wv c g env w σ H) (h : t env w Q)
    (k : ∀ v H1 g1 w1 x, g.le g1 → Bx K Wv c g1 env w1 σ H1 → Rep K g1 v x → Q x w1 → Qv v H1) : liftE K Wv t σ H Qv :=
  ⟨c, g, env, w, Q, B, h, fun v H' ⟨g', w', d, l, R', r, q⟩ => k v H' g' w' d l (B.step l R') r q⟩
theorem bindT {t : DTT} {Q : Bool → W → Prop} {Qv : Bool → Hp → Prop} (B : Bx K Wv c g env w σ H) (h : t env w Q)
    (k : ∀ b H1 g1 w1, g.le g1 → Bx K Wv c g1 env w1 σ H1 → Q b w1 → Qv b H1) : liftT K Wv t σ H Qv :=
  ⟨c, g, env, w, Q, B, h, fun v H' ⟨g', w', l, R', q⟩ => k v H' g' w' l (B.step l R') q⟩
theorem bindA {t : DTA} {Q : List D → W → Prop} {Qv : List V → Hp → Prop} (B : Bx K Wv c g env w σ H) (h : t env w Q)
    (k : ∀ vs H1 g1 w1 xs, g.le g1 → Bx K Wv c g1 env w1 σ H1 → RepL K g1 vs xs → Q xs w1 → Qv vs H1) : liftA K Wv t σ H Qv :=
  ⟨c, g, env, w, Q, B, h, fun v H' ⟨g', w', d, l, R', r, q⟩ => k v H' g' w' d l (B.step l R') r q⟩
theorem PQ.of {Q : DK} {v : V} {g1 : Gh} {w1 : W} {x : D} {H1 : Hp} (l : g.le g1) (R : Rel K c g1 w1 H1) (r : Rep K g1 v x) (q : Q x w1) : PQ K c g Q v H1 := ⟨g1, w1, x, l, R, r, q⟩
end
def dVar (i : Nat) : DTE := fun env w Q => match env[i]? with
  | some (some d) => Q d w
  | _ => False
def dC (d : D) : DTE := fun _ w Q => Q d w
section
variable {X : Cx} {Wv : WX}
theorem de_c {e : Expr} {v : V} {d : D} (h : PE X e (tC v)) (r : ∀ g, Rep X.K g v d) : DE X Wv e (dC d) := ⟨PE_imp h fun σ H Qv ⟨c, g, env, w, Q, B, q, k⟩ =>
  k v H ⟨g, w, d, .rfl, B.R, r g, q⟩⟩
theorem dv (i : Nat) {x : Str} {pos : Pos} (hN : X.N[i]? = some x := by rfl) (hv : Vis X.env.scope x := by first | exact Or.inl rfl | exact Or.inr (Or.inl rfl) | exact Or.inr (Or.inr rfl)) (hd : (x == ("__debug__" : Str)) = false := by decide)
    (hcd : (x == ("__classdict__" : Str)) = false := by decide) : DE X Wv (.Name x pos) (dVar i) := ⟨PE_imp (pe_var hN hv hd hcd) fun σ H Qv ⟨c, g, env, w, Q, B, q, k⟩ => by
  unfold dVar at q
  split at q
  · rename_i d e
    obtain ⟨v, a, r⟩ := B.E.at_ i d e
    exact ⟨v, a, k v H ⟨g, w, d, .rfl, B.R, r, q⟩⟩
  · exact q.elim⟩
theorem de_int {i : Int} {j pos} : DE X Wv (.Constant (.int i) j pos) (dC (.int i)) := de_c pe_int fun _ => .int i
theorem de_bl {i : Bool} {j pos} : DE X Wv (.Constant (.bool i) j pos) (dC (.bl i)) := de_c pe_bl fun _ => .bl i
theorem de_non {j pos} : DE X Wv (.Constant .none j pos) (dC .non) := de_c pe_non fun _ => .non
theorem de_str {x : Str} {j pos} : DE X Wv (.Constant (.str x) j pos) (dC (.str x)) := de_c pe_str fun _ => .str x
theorem de_glob {x : Str} {v : V} {u : Value} {pos : Pos} {d : D} (hg : Gl X x) (hm : X.mg x = some u) (r : RelV v u) (rd : ∀ g, Rep X.K g v d) (hd : (x == ("__debug__" : Str)) = false := by decide) : DE X Wv (.Name x pos) (dC d) := de_c (pe_glob hg hm r hd) rd
theorem de_gstr {x y : Str} {u : Tok} {pos : Pos} (hm : X.mg x = some (.str y u)) (hg : Gl X x := by rfl) (hd : (x == ("__debug__" : Str)) = false := by decide) : DE X Wv (.Name x pos) (dC (.str y)) := de_glob (v := .str y) hg hm ⟨_, rfl⟩ (fun _ => .str y) hd
theorem de_gint {x : Str} {y : Int} {u : Tok} {pos : Pos} (hm : X.mg x = some (.int y u)) (hg : Gl X x := by rfl) (hd : (x == ("__debug__" : Str)) = false := by decide) : DE X Wv (.Name x pos) (dC (.int y)) := de_glob (v := .int y) hg hm ⟨_, rfl⟩ (fun _ => .int y) hd
end
abbrev DR2 := D → D → W → DK → Prop
def OpD (X : Cx) (f : Value → Value → Sem Value) (r : DR2) : Prop :=
  ∃ r0 : R2, OpR X f r0 ∧ ∀ c g w H x y v u Q Qv, Rel X.K c g w H → Rep X.K g v x → Rep X.K g u y → r x y w Q → (∀ v H', PQ X.K c g Q v H' → Qv v H') → r0 v u H Qv
def dOp (r : DR2) (ta tb : DTE) : DTE := fun env w Q => ta env w fun x w1 => tb env w1 fun y w2 => r x y w2 Q
def onBl (d : D) (P : Bool → Prop) : Prop := match d with
  | .bl b => P b
  | _ => False
def dB (t : DTE) : DTT := fun env w Q => t env w fun x w1 => onBl x fun b => Q b w1
section
variable {X : Cx} {Wv : WX} {a b : Expr} {ta tb tc : DTE} {pos : Pos}
theorem dop_lift {r : DR2} {r0 : R2} (imp : ∀ c g w H x y v u Q Qv, Rel X.K c g w H → Rep X.K g v x → Rep X.K g u y → r x y w Q → (∀ v H', PQ X.K c g Q v H' → Qv v H') → r0 v u H Qv)
    {σ : St} {H : Hp} {Qv : VK} (h : liftE X.K Wv (dOp r ta tb) σ H Qv) : tOp r0 (liftE X.K Wv ta) (liftE X.K Wv tb) σ H Qv := by
  obtain ⟨c, g, env, w, Q, B, q, k⟩ := h
  exact bindE B q fun v H1 g1 w1 x l1 B1 r1 q1 => bindE B1 q1 fun u H2 g2 w2 y l2 B2 r2 q2 =>
    imp c g2 w2 H2 x y v u Q Qv B2.R (r1.le l2) r2 q2 fun v H' z => k v H' ((z.up l2).up l1)
theorem de_op {op : Operator} {r : DR2} (ho : OpD X (binaryOp op) r) (ha : DE X Wv a ta) (hb : DE X Wv b tb) : DE X Wv (.BinOp a op b pos) (dOp r ta tb) := by
  obtain ⟨r0, h0, imp⟩ := ho
  exact ⟨PE_imp (pe_op h0 ha.pe hb.pe) fun σ H Qv h => dop_lift imp h⟩
theorem de_cmp {op : CmpOp} {r : DR2} (ho : OpD X (compareOp op) r) (ha : DE X Wv a ta) (hb : DE X Wv b tb) (hm : behindInMarks op b = false := by first | exact nomark _ | rfl) : DE X Wv (.Compare a [op] [b] pos) (dOp r ta tb) := by
  obtain ⟨r0, h0, imp⟩ := ho
  exact ⟨PE_imp (pe_cmpR h0 ha.pe hb.pe hm) fun σ H Qv h => dop_lift imp h⟩
theorem dt_cmp {op : CmpOp} {r : DR2} (ho : OpD X (compareOp op) r) (ha : DE X Wv a ta) (hb : DE X Wv b tb) (hm : behindInMarks op b = false := by first | exact nomark _ | rfl) : DT X Wv (.Compare a [op] [b] pos) (dB (dOp r ta tb)) := by
  obtain ⟨r0, h0, imp⟩ := ho
  refine ⟨PT_imp (pt_cmpR h0 ha.pe hb.pe hm) fun σ H Qv h => ?_⟩
  obtain ⟨c, g, env, w, Q, B, q, k⟩ := h
  refine dop_lift imp (Qv := fun x H' => ∃ k, x = .bl k ∧ Qv k H') ⟨c, g, env, w, fun x w1 => onBl x fun b => Q b w1, B, q, fun v H' ⟨g', w', d, l, R', r', q'⟩ => ?_⟩
  cases r' with
  | bl z => exact ⟨z, rfl, k z H' ⟨g', w', l, R', q'⟩⟩
  | _ => exact False.elim q'
theorem dt_val {e : Expr} {t : DTE} (h : DE X Wv e t) (he : ∀ whole, isTrue e X.env whole = (do let v ← whole; standAt e.pos; holding [v] (truthy v)) := by intro _; rfl) : DT X Wv e (dB t) := by
  refine ⟨PT_imp (pt_val h.pe he) fun σ H Qv h => ?_⟩
  obtain ⟨c, g, env, w, Q, B, q, k⟩ := h
  refine bindE B q fun v H1 g1 w1 x l1 B1 r1 q1 => ?_
  cases r1 with
  | bl z => exact ⟨z, rfl, k z H1 ⟨g1, w1, l1, B1.R, q1⟩⟩
  | _ => exact False.elim q1
def dChain (r r' : DR2) (ta tb tc : DTE) : DTE := fun env w Q => ta env w fun x w1 => tb env w1 fun y w2 => r x y w2 fun z w3 => onBl z fun k => if k = true then tc env w3 fun u w4 => r' y u w4 Q else Q (.bl false) w3
end
section
variable {X : Cx} {Wv : WX} {a b : Expr} {rest : List Expr} {tA tB : DTT} {ta tb : DTE} {pos : Pos}
def dAnd (t u : DTT) : DTT := fun env w Q => t env w fun b w1 => if b = true then u env w1 Q else Q false w1
def dOr (t u : DTT) : DTT := fun env w Q => t env w fun b w1 => if b = true then Q true w1 else u env w1 Q
def dNot (t : DTT) : DTT := fun env w Q => t env w fun b w1 => Q (!b) w1
def dIf (t : DTT) (ta tb : DTE) : DTE := fun env w Q => t env w fun b w1 => if b = true then ta env w1 Q else tb env w1 Q
theorem dw_and1 (h : DT X Wv a tA) : DW X Wv (.BoolOp .And [a] pos) tA := ⟨pw_and1 h.pt⟩
theorem dw_or1 (h : DT X Wv a tA) : DW X Wv (.BoolOp .Or [a] pos) tA := ⟨pw_or1 h.pt⟩
theorem dw_and (ha : DT X Wv a tA) (hb : DW X Wv (.BoolOp .And (b :: rest) pos) tB) : DW X Wv (.BoolOp .And (a :: b :: rest) pos) (dAnd tA tB) := by
  refine ⟨PW_imp (pw_and ha.pt hb.pw) fun σ H Qv ⟨c, g, env, w, Q, B, q, k⟩ => ?_⟩
  refine bindT B q fun z H1 g1 w1 l1 B1 q1 => ?_
  cases z with
  | true => exact iteT (bindT B1 q1 fun z H2 g2 w2 l2 B2 q2 => k z H2 ⟨g2, w2, l1.trans l2, B2.R, q2⟩)
  | false => exact iteF (k false H1 ⟨g1, w1, l1, B1.R, q1⟩)
theorem dw_or (ha : DT X Wv a tA) (hb : DW X Wv (.BoolOp .Or (b :: rest) pos) tB) : DW X Wv (.BoolOp .Or (a :: b :: rest) pos) (dOr tA tB) := by
  refine ⟨PW_imp (pw_or ha.pt hb.pw) fun σ H Qv ⟨c, g, env, w, Q, B, q, k⟩ => ?_⟩
  refine bindT B q fun z H1 g1 w1 l1 B1 q1 => ?_
  cases z with
  | true => exact iteT (k true H1 ⟨g1, w1, l1, B1.R, q1⟩)
  | false => exact iteF (bindT B1 q1 fun z H2 g2 w2 l2 B2 q2 => k z H2 ⟨g2, w2, l1.trans l2, B2.R, q2⟩)
theorem dt_w (h : DW X Wv a tA) : DT X Wv a tA := ⟨h.pw.pt⟩
theorem dt_not (h : DT X Wv a tA) : DT X Wv (.UnaryOp .Not a pos) (dNot tA) :=
  ⟨PT_imp (pt_not h.pt) fun σ H Qv ⟨c, g, env, w, Q, B, q, k⟩ => bindT B q fun z H1 g1 w1 l1 B1 q1 => k (!z) H1 ⟨g1, w1, l1, B1.R, q1⟩⟩
theorem de_if {c : Expr} (hc : DT X Wv c tA) (ha : DE X Wv a ta) (hb : DE X Wv b tb) : DE X Wv (.IfExp c a b pos) (dIf tA ta tb) := by
  refine ⟨PE_imp (pe_ifExp hc.pt ha.pe hb.pe) fun σ H Qv ⟨c, g, env, w, Q, B, q, k⟩ => ?_⟩
  refine bindT B q fun z H1 g1 w1 l1 B1 q1 => ?_
  cases z with
  | true => exact iteT (bindE B1 q1 fun v H2 g2 w2 x l2 B2 r2 q2 => k v H2 ⟨g2, w2, x, l1.trans l2, B2.R, r2, q2⟩)
  | false => exact iteF (bindE B1 q1 fun v H2 g2 w2 x l2 B2 r2 q2 => k v H2 ⟨g2, w2, x, l1.trans l2, B2.R, r2, q2⟩)
def dAndV (t u : DTE) : DTE := fun env w Q => t env w fun x w1 => onBl x fun b => if b = true then u env w1 Q else Q (.bl false) w1
def dOrV (t u : DTE) : DTE := fun env w Q => t env w fun x w1 => onBl x fun b => if b = true then Q (.bl true) w1 else u env w1 Q
def dNotV (t : DTE) : DTE := fun env w Q => t env w fun x w1 => onBl x fun b => Q (.bl (!b)) w1
theorem de_one {op} {t : DTE} (h : DE X Wv a t) : DE X Wv (.BoolOp op [a] pos) t := ⟨pe_one h.pe⟩
theorem de_and (ha : DE X Wv a ta) (hb : DE X Wv (.BoolOp .And (b :: rest) pos) tb) : DE X Wv (.BoolOp .And (a :: b :: rest) pos) (dAndV ta tb) := by
  refine ⟨PE_imp (pe_and ha.pe hb.pe) fun σ H Qv ⟨c, g, env, w, Q, B, q, k⟩ => ?_⟩
  refine bindE B q fun v H1 g1 w1 x l1 B1 r1 q1 => ?_
  cases r1 with
  | bl z =>
    refine ⟨z, rfl, ?_⟩
    have q1 : if z = true then tb env w1 Q else Q (.bl false) w1 := q1
    cases z with
    | true => exact iteT (bindE B1 (by simpa using q1) fun v H2 g2 w2 x l2 B2 r2 q2 => k v H2 ⟨g2, w2, x, l1.trans l2, B2.R, r2, q2⟩)
    | false => exact iteF (k _ H1 ⟨g1, w1, .bl false, l1, B1.R, .bl false, by simpa using q1⟩)
  | _ => exact False.elim q1
theorem de_or (ha : DE X Wv a ta) (hb : DE X Wv (.BoolOp .Or (b :: rest) pos) tb) : DE X Wv (.BoolOp .Or (a :: b :: rest) pos) (dOrV ta tb) := by
  refine ⟨PE_imp (pe_or ha.pe hb.pe) fun σ H Qv ⟨c, g, env, w, Q, B, q, k⟩ => ?_⟩
  refine bindE B q fun v H1 g1 w1 x l1 B1 r1 q1 => ?_
  cases r1 with
  | bl z =>
    refine ⟨z, rfl, ?_⟩
    have q1 : if z = true then Q (.bl true) w1 else tb env w1 Q := q1
    cases z with
    | false => exact iteF (bindE B1 (by simpa using q1) fun v H2 g2 w2 x l2 B2 r2 q2 => k v H2 ⟨g2, w2, x, l1.trans l2, B2.R, r2, q2⟩)
    | true => exact iteT (k _ H1 ⟨g1, w1, .bl true, l1, B1.R, .bl true, by simpa using q1⟩)
  | _ => exact False.elim q1
theorem de_not (ha : DE X Wv a ta) : DE X Wv (.UnaryOp .Not a pos) (dNotV ta) := by
  refine ⟨PE_imp (pe_not ha.pe) fun σ H Qv ⟨c, g, env, w, Q, B, q, k⟩ => ?_⟩
  refine bindE B q fun v H1 g1 w1 x l1 B1 r1 q1 => ?_
  cases r1 with
  | bl z => exact ⟨z, rfl, k _ H1 ⟨g1, w1, .bl (!z), l1, B1.R, .bl (!z), q1⟩⟩
  | _ => exact False.elim q1
end
section
variable {X : Cx} {Wv : WX} {a b c : Expr} {ta tb tc : DTE} {pos : Pos}
theorem chain_lift {r r' : DR2} {r0 r0' : R2} (imp : ∀ c g w H x y v u Q Qv, Rel X.K c g w H → Rep X.K g v x → Rep X.K g u y → r x y w Q → (∀ v H', PQ X.K c g Q v H' → Qv v H') → r0 v u H Qv)
    (imp' : ∀ c g w H x y v u Q Qv, Rel X.K c g w H → Rep X.K g v x → Rep X.K g u y → r' x y w Q → (∀ v H', PQ X.K c g Q v H' → Qv v H') → r0' v u H Qv)
    {σ : St} {H : Hp} {Qv : VK} (h : liftE X.K Wv (dChain r r' ta tb tc) σ H Qv) : tChain r0 r0' (liftE X.K Wv ta) (liftE X.K Wv tb) (liftE X.K Wv tc) σ H Qv := by
  obtain ⟨c, g, env, w, Q, B, q, k⟩ := h
  refine bindE B q fun v H1 g1 w1 x l1 B1 r1 q1 => bindE B1 q1 fun u H2 g2 w2 y l2 B2 r2 q2 => ?_
  refine imp c g2 w2 H2 x y v u _ _ B2.R (r1.le l2) r2 q2 fun z H3 ⟨g3, w3, d, l3, R3, rd, q3⟩ => ?_
  cases rd with
  | bl z =>
    refine ⟨z, rfl, ?_⟩
    have q3 : if z = true then tc env w3 (fun u w4 => r' y u w4 Q) else Q (.bl false) w3 := q3
    cases z with
    | true =>
      refine iteT (bindE (B2.step l3 R3) (by simpa using q3) fun v4 H4 g4 w4 x4 l4 B4 r4 q4 => ?_)
      exact imp' c g4 w4 H4 y x4 u v4 Q Qv B4.R (r2.le (l3.trans l4)) r4 q4 fun v H' z => k v H' ((((z.up l4).up l3).up l2).up l1)
    | false => exact iteF (k _ H3 ⟨g3, w3, .bl false, (l1.trans l2).trans l3, R3, .bl false, by simpa using q3⟩)
  | _ => exact False.elim q3
theorem de_chain {op op' : CmpOp} {r r' : DR2} (ho : OpD X (compareOp op) r) (ho' : OpD X (compareOp op') r') (ha : DE X Wv a ta) (hb : DE X Wv b tb) (hc : DE X Wv c tc)
    (hm : lastMarks [op, op'] [b, c] = false := by with_unfolding_all rfl) : DE X Wv (.Compare a [op, op'] [b, c] pos) (dChain r r' ta tb tc) := by
  obtain ⟨r0, h0, imp⟩ := ho
  obtain ⟨r0', h0', imp'⟩ := ho'
  exact ⟨PE_imp (pe_chain h0 h0' ha.pe hb.pe hc.pe hm) fun σ H Qv h => chain_lift imp imp' h⟩
theorem dt_chain {op op' : CmpOp} {r r' : DR2} (ho : OpD X (compareOp op) r) (ho' : OpD X (compareOp op') r') (ha : DE X Wv a ta) (hb : DE X Wv b tb) (hc : DE X Wv c tc)
    (hm : lastMarks [op, op'] [b, c] = false := by with_unfolding_all rfl) : DT X Wv (.Compare a [op, op'] [b, c] pos) (dB (dChain r r' ta tb tc)) := by
  obtain ⟨r0, h0, imp⟩ := ho
  obtain ⟨r0', h0', imp'⟩ := ho'
  refine ⟨PT_imp (pt_chain h0 h0' ha.pe hb.pe hc.pe hm) fun σ H Qv h => ?_⟩
  obtain ⟨c, g, env, w, Q, B, q, k⟩ := h
  refine chain_lift imp imp' (Qv := fun x H' => ∃ k, x = .bl k ∧ Qv k H') ⟨c, g, env, w, fun x w1 => onBl x fun b => Q b w1, B, q, fun v H' ⟨g', w', d, l, R', r', q'⟩ => ?_⟩
  cases r' with
  | bl z => exact ⟨z, rfl, k z H' ⟨g', w', l, R', q'⟩⟩
  | _ => exact False.elim q'
end
def dNil : DTA := fun _ w Q => Q [] w
def dCons (t : DTE) (u : DTA) : DTA := fun env w Q => t env w fun x w1 => u env w1 fun xs w2 => Q (x :: xs) w2
def dTup (t : DTA) : DTE := fun env w Q => t env w fun xs w1 => xs.length ≤ sizeLine ∧ Q (.tup xs) w1
def dLst (t : DTA) : DTE := fun env w Q => t env w fun xs w1 => xs.length ≤ sizeLine ∧ Q (.lst xs) w1
def dLstM (t : DTA) : DTE := fun env w Q => t env w fun xs w1 => xs.length ≤ sizeLine ∧ ∀ p, w1.m p = none → Q (.ref p) (w1.put p (.lst xs))
section
variable {X : Cx} {Wv : WX} {e : Expr} {es : List Expr} {te : DTE} {t : DTA} {pos : Pos}
theorem da_nil : DA X Wv [] dNil := ⟨PA_imp pa_nil fun σ H Qv ⟨c, g, env, w, Q, B, q, k⟩ => k [] H ⟨g, w, [], .rfl, B.R, .nil, q⟩⟩
theorem da_cons (ha : DE X Wv e te) (hr : DA X Wv es t) (hs : starEach (e :: es) X.env = (false, eval e X.env) :: starEach es X.env := by rfl) : DA X Wv (e :: es) (dCons te t) :=
  ⟨PA_imp (pa_cons ha.pe hr.pa hs) fun σ H Qv ⟨c, g, env, w, Q, B, q, k⟩ => bindE B q fun v H1 g1 w1 x l1 B1 r1 q1 => bindA B1 q1 fun vs H2 g2 w2 xs l2 B2 r2 q2 =>
    k _ H2 ⟨g2, w2, x :: xs, l1.trans l2, B2.R, .cons (r1.le l2) r2, q2⟩⟩
theorem de_tup {x1} (h : DA X Wv es t) : DE X Wv (.Tuple es x1 pos) (dTup t) :=
  ⟨PE_imp (pe_tup h.pa) fun σ H Qv ⟨c, g, env, w, Q, B, q, k⟩ => bindA B q fun vs H1 g1 w1 xs l1 B1 r1 q1 => ⟨by rw [r1.length]; exact q1.1, fun p hp =>
    have l2 := Gh.add_le (o := .tup vs) (B1.R.noG hp)
    k _ _ ⟨_, w1, .tup xs, l1.trans l2, B1.R.alloc hp, .tup (.inl (.inl Gh.add_at)) (r1.le l2), q1.2⟩⟩⟩
theorem de_lst (h : DA X Wv es t) : DE X Wv (.List es pos) (dLst t) :=
  ⟨PE_imp (pe_lst h.pa) fun σ H Qv ⟨c, g, env, w, Q, B, q, k⟩ => bindA B q fun vs H1 g1 w1 xs l1 B1 r1 q1 => ⟨by rw [r1.length]; exact q1.1, fun p hp =>
    have l2 := Gh.add_le (o := .lst vs) (B1.R.noG hp)
    k _ _ ⟨_, w1, .lst xs, l1.trans l2, B1.R.alloc hp, .lst (.inl (.inl Gh.add_at)) (r1.le l2), q1.2⟩⟩⟩
theorem de_lstM (h : DA X Wv es t) : DE X Wv (.List es pos) (dLstM t) :=
  ⟨PE_imp (pe_lst h.pa) fun σ H Qv ⟨c, g, env, w, Q, B, q, k⟩ => bindA B q fun vs H1 g1 w1 xs l1 B1 r1 q1 => ⟨by rw [r1.length]; exact q1.1, fun p hp =>
    k _ _ ⟨g1, _, .ref p, l1, B1.R.allocM hp (.lst r1), .ref p, q1.2 p (B1.R.noM hp)⟩⟩⟩
end
def MO.d (p : Addr) : MO → D
  | .lst xs => .lst xs
  | .dic kvs => .dic kvs
  | .ins C _ fs => .obj C fs
  | .tab _ => .ref p
  | .held _ _ => .ref p
  | .clo _ _ _ _ _ => .ref p
def dFrz (t : DTE) : DTE := fun env w Q => t env w fun x w1 => match x with
  | .ref p => ∃ m, w1.m p = some m ∧ Q (m.d p) (w1.del p)
  | _ => False
theorem Rel.frz {K : PySem.W.Frag} {c : Ck} {g : Gh} {w : W} {H : Hp} (R : Rel K c g w H) {p : Addr} {m : MO} (h : w.m p = some m) : ∃ g', g.le g' ∧ Rel K c g' (w.del p) H ∧ Rep K g' (.ref p) (m.d p) := by
  obtain ⟨o, r, l, R'⟩ := R.freeze h
  refine ⟨_, l, R', ?_⟩
  cases r with
  | lst r => exact .lst (.inl (.inl Gh.add_at)) (r.le l)
  | dic r => exact .dic Gh.add_at (r.le l)
  | ins k r => exact .obj k Gh.add_at (r.le l)
  | tab _ _ => exact .ref p
  | held _ => exact .ref p
  | clo _ _ _ _ => exact .ref p
theorem de_frz {X : Cx} {Wv : WX} {e : Expr} {t : DTE} (h : DE X Wv e t) : DE X Wv e (dFrz t) :=
  ⟨PE_imp h.pe fun σ H Qv ⟨c, g, env, w, Q, B, q, k⟩ => bindE B q fun v H1 g1 w1 x l1 B1 r1 q1 => by
    cases r1 with
    | ref p =>
      obtain ⟨m, e, q1⟩ := (show ∃ m, w1.m p = some m ∧ Q (m.d p) (w1.del p) from q1)
      obtain ⟨g2, l2, R2, r2⟩ := B1.R.frz e
      exact k _ _ ⟨g2, _, _, l1.trans l2, R2, r2, q1⟩
    | _ => exact False.elim q1⟩
def dNext : DTS := fun D env w => D.nx env w
def dSeq (t u : DTS) : DTS := fun D env w => t { D with nx := u D } env w
def dDrop (t : DTE) : DTS := fun D env w => t env w fun _ w1 => D.nx env w1
def dRet (t : DTE) : DTS := fun D env w => t env w D.rt
def dIfS (t : DTT) (a b : DTS) : DTS := fun D env w => t env w fun z w1 => if z = true then a D env w1 else b D env w1
def dSet (i : Nat) (t : DTE) : DTS := fun D env w => t env w fun x w1 => D.nx (env.set i (some x)) w1
def dNever : DTS := fun _ _ _ => False
section
variable {X : Cx} {Wv : WX} {st : Stmt} {rest : List Stmt} {t u : DTS} {e : Expr} {te : DTE} {pos : Pos}
theorem dss_nil : DSs X Wv [] dNext := ⟨PSs_imp pss_nil fun Dv σ H ⟨c, g, env, w, D, B, q, k⟩ => k.nx env w σ H g .rfl B q⟩
theorem dss_cons (h1 : DS X Wv st t) (h2 : DSs X Wv rest u) : DSs X Wv (st :: rest) (dSeq t u) :=
  ⟨PSs_imp (pss_cons h1.ps h2.ps) fun Dv σ H ⟨c, g, env, w, D, B, q, k⟩ =>
    ⟨c, g, env, w, { D with nx := u D }, B, q, ⟨fun env1 w1 σ1 H1 g1 l1 B1 q1 => ⟨c, g1, env1, w1, D, B1, q1, k.up l1⟩, k.rt, k.bk, k.ct⟩⟩⟩
theorem dss_one (h1 : DS X Wv st t) : DSs X Wv [st] t := ⟨pss_one h1.ps⟩
theorem ds_expr (he : DE X Wv e te) (hs : swapsWith e none pos.line X.env = pure false := by rfl) : DS X Wv (.Expr e pos) (dDrop te) :=
  ⟨PS_imp (ps_expr he.pe hs) fun Dv σ H ⟨c, g, env, w, D, B, q, k⟩ => bindE B q fun v H1 g1 w1 x l1 B1 r1 q1 => k.nx env w1 σ H1 g1 l1 B1 q1⟩
theorem ds_ret (he : DE X Wv e te) : DS X Wv (.Return (some e) pos) (dRet te) :=
  ⟨PS_imp (ps_ret he.pe) fun Dv σ H ⟨c, g, env, w, D, B, q, k⟩ => bindE B q fun v H1 g1 w1 x l1 B1 r1 q1 => k.rt v H1 ⟨g1, w1, x, l1, B1.R, r1, q1⟩⟩
theorem ds_if {c : Expr} {a b : List Stmt} {tc : DTT} (hc : DT X Wv c tc) (ha : DSs X Wv a t) (hb : DSs X Wv b u) : DS X Wv (.If c a b pos) (dIfS tc t u) :=
  ⟨PS_imp (ps_if hc.pt ha.ps hb.ps) fun Dv σ H ⟨c, g, env, w, D, B, q, k⟩ => bindT B q fun z H1 g1 w1 l1 B1 q1 => by
    cases z with
    | true => exact iteT ⟨c, g1, env, w1, D, B1, q1, k.up l1⟩
    | false => exact iteF ⟨c, g1, env, w1, D, B1, q1, k.up l1⟩⟩
theorem ds_set {i : Nat} {x : Str} {pos' : Pos} (hN : X.N.Nodup) (he : DE X Wv e te) (hi : X.N[i]? = some x := by rfl) (hx : Loc X.env.scope x := by first | exact Or.inl rfl | exact Or.inr rfl) (hs : swapsWith e (some (.Name x pos')) pos.line X.env = pure false := by rfl) (hf : X.fn x = true ∨ X.env.scope.names.lookup x = some .local := by first | exact .inl rfl | exact .inr rfl | assumption) :
    DS X Wv (.Assign [.Name x pos'] e pos) (dSet i te) :=
  ⟨PS_imp (ps_set hN hi hx he.pe hs hf) fun Dv σ H ⟨c, g, env, w, D, B, q, k⟩ => bindE B q fun v H1 g1 w1 x l1 B1 r1 q1 => k.nx _ w1 _ H1 g1 l1 (B1.env (B1.E.set r1)) q1⟩
theorem ds_never : DS X Wv st dNever := ⟨PS_imp ps_never fun Dv σ H ⟨c, g, env, w, D, B, q, k⟩ => q⟩
end
end DL
namespace DL
open PySem PySem.Spec PyProof.Rows L2
structure FnG (P : Program) (w : World) (K : PySem.W.Frag) (mg : Str → Option Value) (base : Heap) (k : Nat) (f : Addr) (fd : FuncData) (ps : List Str) (sp : Sp) : Prop where
  len : ∀ vs H Q E, sp vs H Q E → vs.length = ps.length
  run : ∀ (A : Around) (outer : List Env) (s : Shared) (H : Hp) (args : Args) (us : List Value) (vs : List V) (Q : VK) (E : XK), Room k A → A.guards = some [] → Env0 P w K mg base A outer s H →
    BindsTo s fd args (ps.zip us) → Vals vs us → sp vs H Q E → codeAny (model P w) A (.call (.ref f) args) (CR (L2.CX P w) outer P w H s Q E) s
section
variable {P : Program} {w : World} {K : PySem.W.Frag} {mg : Str → Option Value} {base : Heap}
theorem FnG.mono {j k : Nat} {f : Addr} {fd : FuncData} {ps : List Str} {sp : Sp} (F : FnG P w K mg base j f fd ps sp) (h : j ≤ k) : FnG P w K mg base k f fd ps sp :=
  ⟨F.len, fun A o s H a us vs Q E hr => F.run A o s H a us vs Q E (hr.mono h)⟩
theorem FnG.imp {k : Nat} {f : Addr} {fd : FuncData} {ps : List Str} {sp sp' : Sp} (F : FnG P w K mg base k f fd ps sp) (h : ∀ vs H Q E, sp' vs H Q E → sp vs H Q E) : FnG P w K mg base k f fd ps sp' :=
  ⟨fun vs H Q E q => F.len vs H Q E (h _ _ _ _ q), fun A o s H a us vs Q E hr hg he hb hv hs => F.run A o s H a us vs Q E hr hg he hb hv (h _ _ _ _ hs)⟩
theorem fnG_of {x qual : Str} {st : Stmt} {f : Addr} {fd : FuncData} {N ps : List Str} {k : Nat} {sp : Sp} (F : Fun K x qual st f fd) (S : FnScope N ps (defScope st)) (len : ∀ vs H Q E, sp vs H Q E → vs.length = ps.length)
    (hbody : ∀ (cdv : Value) (A : Around) (outer : List Env) (s : Shared) (H : Hp) (vs : List V) (Q : VK) (E : XK), Room k (A.deeper (envOfC qual (defScope st) s.heap.objs.size f cdv)) → A.guards = some [] → sp vs H Q E →
      ∃ t, PSs (cxOf (L2.CX P w) P w K mg base N qual (defScope st) f cdv A outer s H E) (defBody st) t ∧ t { nx := fun _ H' => Q .non H', rt := Q } (start N vs) H) : FnG P w K mg base (k + 1) f fd ps sp := by
  obtain ⟨oc, od, kV, doc, pm, an, cdv, ct, osl, rfl, lk, hcd⟩ := F.ex
  refine ⟨len, fun A outer s H args us vs Q E hr hgd e0 hb r q0 => ?_⟩
  have hl := len _ _ _ _ q0
  have kin : K.In s.heap := e0.mod.kin.keeps fun b o e => (e0.bs b o e).1
  have nolim : s.heap.NoLimit := e0.mod.nolimit.keeps fun b o e => (e0.bs b o e).1
  refine codeAny_call_function hr.depth (kin _ _ lk) rfl S.co S.gen rfl (PySem.W.codeRec_of kin hcd) (hb _ _ _ _ ?_)
  refine wpAny_newFunctionEnv_cells S.kind (fun y hy => ?_) fun env he s1 x => ?_
  · obtain ⟨n, v⟩ := y
    cases S.par n (List.of_mem_zip hy).1 with
    | inl q => exact .inl q
    | inr q => exact .inr ⟨q, PySem.W.cellsFrom_some _ _ _ (.inl q)⟩
  · subst he
    refine ⟨nolim.keeps x.toInCall.keep, codeAny_func ?_⟩
    obtain ⟨t, ht, hq⟩ := hbody cdv A outer s H vs Q E (hr.deeper _) hgd q0
    have J := inv_start (CX := L2.CX P w) (P := P) (w := w) (qual := qual) (f := f) (cd := cdv) (E := E) S hr.hd e0 hl r x
    refine wpAny_mono (ht.run [] s1 _ H _ J hq) (fun fl s' hs => ?_) fun e s' hs => hs
    have fin : ∀ {σ' : St} {H' : Hp} {v : V} {u : Value}, Inv (cxOf (L2.CX P w) P w K mg base N qual (defScope st) f cdv A outer s H E) [] σ' H' s' → RelV v u → Q v H' → CE outer P w H s Q u s' :=
      fun {_ H' v _} J rv q => ⟨v, H', J.os, J.bare, J.base, J.hok, rv, q⟩
    cases fl with
    | ret u =>
      obtain ⟨v, _, H', J, rv, q⟩ := hs
      exact fin J rv q
    | next =>
      obtain ⟨_, H', J, q⟩ := hs
      exact fin (v := V.non) (u := Value.none) J rfl q
    | brk => exact hs.elim fun _ h => h.elim fun _ h => h.2.elim
    | cont => exact hs.elim fun _ h => h.elim fun _ h => h.2.elim
end
section
variable {X : Cx} {k : Nat} {f C : Addr} {fd : FuncData} {ps : List Str} {sp : Sp} {Wv : WX} {x m : Str} {p pos apos : Pos} {e o : Expr} {es : List Expr} {ta : TE} {t : TA}
theorem runG {pins : List (Addr × Obj)} {σ : St} {H : Hp} {s : Shared} {Q : VK} {us : List Value} {vs : List V} (F : FnG X.prog X.w X.K X.mg X.base k f fd ps sp) (hr : Room k X.A) (hgd : X.A.guards = some []) (hb : Binds X.K fd ps []) (tk : Takes X Wv)
    (I : Inv X pins σ H s) (r : Vals vs us) (h : sp vs H Q (WE Wv σ)) : wpAny (model X.prog X.w) X.A (call (.ref f) us) (EP X pins σ Q) X.xe s := by
  have hl : us.length = ps.length := by
    rw [← r.length]
    exact F.len _ _ _ _ h
  have b := hb s us I.kIn (by rw [List.append_nil]; exact hl)
  rw [List.append_nil] at b
  refine wpAny_call (codeAny_mono (F.run X.A X.stack s H _ us vs Q _ hr hgd I.env0 b r h) fun r s' hq => ?_)
  match r, hq with
  | .error e, hq => exact passAt tk σ pins H s e s' I hq
  | .ok (.ret u), hq => exact I.after hq
def tCallG (sp : Sp) (Wv : WX) (t : TA) : TE := fun σ H Q => t σ H fun vs H1 => sp vs H1 Q (WE Wv σ)
theorem peG_call (F : FnG X.prog X.w X.K X.mg X.base k f fd ps sp) (hr : Room k X.A) (hgd : X.A.guards = some []) (hg : Gl X x) (hm : X.mg x = some (.ref f)) (hk : PySem.W.keepIn X.K (.ref f) = true) (hb : Binds X.K fd ps []) (tk : Takes X Wv)
    (ha : PA X (e :: es) t) (hdb : (x == ("__debug__" : Str)) = false) (he : starEach (e :: es) X.env = (false, eval e X.env) :: starEach es X.env) (hpl : (backTo pos (starEach es X.env)).any (·.1) = false) :
    PE X (.Call (.Name x p) (e :: es) [] pos) (tCallG sp Wv t) :=
  ⟨fun pins s σ H Q I h => wpAny_Call_Name_kw (ld_glob I hg hm (PySem.W.callWith_K (h₀ := X.base) I.ok.mod.kin hk (thn (ha.run pos pins s σ H _ I h) fun us s1 ⟨vs, H1, I1, r, q⟩ =>
    ⟨I1.kIn, runG F hr hgd hb tk I1 r q⟩) he hpl) hdb)⟩
end
abbrev DSp := List D → W → DK → Prop
def liftSp (K : PySem.W.Frag) (sp : DSp) : Sp := fun vs H Qv Ev => ∃ c g w ds Q, Rel K c g w H ∧ RepL K g vs ds ∧ sp ds w Q ∧ (∀ v H', PQ K c g Q v H' → Qv v H') ∧ (∀ env, c.e env = c.e []) ∧
  ∀ cls d H' g', g.le g' → PX K c g' (c.e []) cls d H' → Ev cls d H'
structure DCal (P : Program) (w : World) (K : PySem.W.Frag) (mg : Str → Option Value) (base : Heap) (k : Nat) (x : Str) (n : Nat) (sp : DSp) : Prop where
  ex : ∃ (f : Addr) (fd : FuncData) (ps : List Str), FnG P w K mg base k f fd ps (liftSp K sp) ∧ mg x = some (.ref f) ∧ PySem.W.keepIn K (.ref f) = true ∧ Binds K fd ps [] ∧ ps.length = n
theorem DCal.mono {P : Program} {w : World} {K : PySem.W.Frag} {mg : Str → Option Value} {base : Heap} {j k : Nat} {x : Str} {n : Nat} {sp : DSp} (c : DCal P w K mg base j x n sp) (h : j ≤ k) : DCal P w K mg base k x n sp :=
  let ⟨f, fd, ps, F, r⟩ := c.ex; ⟨f, fd, ps, F.mono h, r⟩
def dCall (sp : DSp) (t : DTA) : DTE := fun env w Q => t env w fun xs w1 => sp xs (w1.inn env) fun d w2 => Q d (w2.as w1)
theorem Rel.inn {K : PySem.W.Frag} {c : Ck} {g : Gh} {w : W} {H : Hp} (R : Rel K c g w H) (env : En) : Rel K { c with e := fun _ => c.e env } g (w.inn env) H :=
  ⟨R.imm, R.lck, R.mu, R.frm, R.pen, by show (fun _ => w.e env) = fun _ => c.e env; rw [R.ex]⟩
theorem Rel.out {K : PySem.W.Frag} {c c' : Ck} {g : Gh} {w w0 : W} {H : Hp} (R : Rel K c' g w H) (hL : c'.L = c.L) (hF : c'.F = c.F) (h : w0.e = c.e) : Rel K c g (w.as w0) H :=
  ⟨hL ▸ R.imm, hL ▸ R.lck, hF ▸ R.mu, hF ▸ R.frm, R.pen, h⟩
section
variable {X : Cx} {Wv : WX} {k n : Nat} {sp : DSp} {x : Str} {p pos : Pos} {e : Expr} {es : List Expr} {t : DTA}
theorem call_lift {σ : St} {H : Hp} {Qv : VK} (h : liftE X.K Wv (dCall sp t) σ H Qv) : tCallG (liftSp X.K sp) Wv (liftA X.K Wv t) σ H Qv := by
  obtain ⟨c, g, env, w, Q, B, q, kk⟩ := h
  refine bindA B q fun vs H1 g1 w1 xs l1 B1 r1 q1 => ?_
  refine ⟨{ c with e := fun _ => c.e env }, g1, w1.inn env, xs, _, B1.R.inn env, r1, q1, fun v H' ⟨g2, w2, d, l2, R2, r2, q2⟩ => ?_, fun _ => rfl, fun cls d H' g' l' px => ?_⟩
  · exact kk v H' ⟨g2, w2.as w1, d, l1.trans l2, R2.out rfl rfl B1.R.ex, r2, q2⟩
  · refine B1.X env σ H' cls d g' l' (B1.E.le l') ?_
    obtain ⟨g3, w3, C, fs, e1, l3, R3, e3, m3⟩ := px
    exact ⟨g3, w3.as w1, C, fs, e1, l3, R3.out rfl rfl B1.R.ex, e3, m3⟩
theorem de_call (F : DCal X.prog X.w X.K X.mg X.base k x n sp) (hr : Room k X.A) (hgd : X.A.guards = some []) (tk : Takes X Wv) (ha : DA X Wv (e :: es) t) (hg : Gl X x := by rfl)
    (hdb : (x == ("__debug__" : Str)) = false := by decide) (he : starEach (e :: es) X.env = (false, eval e X.env) :: starEach es X.env := by rfl) (hpl : (backTo pos (starEach es X.env)).any (·.1) = false := by rfl) :
    DE X Wv (.Call (.Name x p) (e :: es) [] pos) (dCall sp t) := by
  obtain ⟨f, fd, ps, F, hm, kp, b, _⟩ := F.ex
  exact ⟨PE_imp (peG_call F hr hgd hg hm kp b tk ha.pa hdb he hpl) fun σ H Qv h => call_lift h⟩
end
def startD (N : Nat) (ds : List D) : En := ds.map some ++ List.replicate (N - ds.length) none
theorem RepL.env {K : PySem.W.Frag} {g : Gh} {vs : List V} {ds : List D} (r : RepL K g vs ds) (N : List Str) : EnR K g (startD N.length ds) (L2.start N vs) := by
  have hl := r.length
  refine ⟨by unfold startD L2.start; simp [hl], fun i d e => ?_⟩
  unfold startD at e
  unfold L2.start
  by_cases hi : i < ds.length
  · rw [List.getElem?_append_left (by simpa using hi), List.getElem?_map] at e
    rw [List.getElem?_append_left (by simpa [hl] using hi), List.getElem?_map]
    cases q : ds[i]? with
    | none => rw [q] at e; cases e
    | some y =>
      rw [q] at e; cases e
      obtain ⟨u, a, b⟩ := r.get q
      exact ⟨u, by rw [a]; rfl, b⟩
  · rw [List.getElem?_append_right (by simpa using hi), List.getElem?_replicate] at e
    split at e <;> cases e
section
variable {P : Program} {w : World} {K : PySem.W.Frag} {mg : Str → Option Value} {base : Heap}
theorem dfn {x qual : Str} {st : Stmt} {f : Addr} {fd : FuncData} {N ps : List Str} {k : Nat} {sp : DSp} (F : Fun K x qual st f fd) (S : FnScope N ps (defScope st)) (len : ∀ ds w Q, sp ds w Q → ds.length = ps.length)
    (hbody : ∀ (cdv : Value) (A : Around) (outer : List Env) (s : Shared) (H : Hp) (E : XK), Room k (A.deeper (envOfC qual (defScope st) s.heap.objs.size f cdv)) → A.guards = some [] →
      ∃ t, DSs (cxOf (L2.CX P w) P w K mg base N qual (defScope st) f cdv A outer s H E) (fun cls d _ H => E cls d H) (defBody st) t ∧
        ∀ ds (wd : W) Q, sp ds wd Q → t { nx := fun _ w' => Q .non w', rt := Q } (startD N.length ds) wd) : FnG P w K mg base (k + 1) f fd ps (liftSp K sp) := by
  refine fnG_of F S (fun vs H Q E h => ?_) fun cdv A outer s H vs Q E hr hgd h => ?_
  · obtain ⟨c, g, w, ds, Q0, R, r, h, _⟩ := h
    rw [r.length]
    exact len _ _ _ h
  · obtain ⟨t, ht, hq⟩ := hbody cdv A outer s H E hr hgd
    obtain ⟨c, g, wd, ds, Q0, R, r, h, k1, k3, k2⟩ := h
    refine ⟨_, ht.ps, c, g, _, wd, _, ⟨R, r.env N, fun env' σ' H' cls d g' l' e' px => k2 cls d H' g' l' (k3 env' ▸ px)⟩, hq ds wd Q0 h, ⟨fun env w σ H g' l' B q => ?_, k1, fun env w σ H g' l' B q => q.elim, fun env w σ H g' l' B q => q.elim⟩⟩
    exact k1 .non H ⟨g', w, .non, l', B.R, .non, q⟩
end
end DL
namespace DL
open PySem PySem.Spec PyProof.Rows L2
abbrev DTG := D → En → W → (En → W → Prop) → Prop
abbrev DTGs := List D → En → W → (En → W → Prop) → Prop
def SameW (sl : List Nat) (σ σ' : St) : Prop := ∀ vs : List Nat, (∀ i ∈ sl, i ∈ vs) → wipe σ' vs = wipe σ vs
def liftG (K : PySem.W.Frag) (Wv : WX) (sl : List Nat) (gd : DTG) : TG := fun v σ H Qv => ∃ c g env w d Q, Bx K Wv c g env w σ H ∧ Rep K g v d ∧ gd d env w Q ∧
  ∀ env' w' σ' H' g', g.le g' → Bx K Wv c g' env' w' σ' H' → SameW sl σ σ' → Q env' w' → Qv σ' H'
def liftGs (K : PySem.W.Frag) (Wv : WX) (sl : List Nat) (gd : DTGs) : TGs := fun vs σ H Qv => ∃ c g env w ds Q, Bx K Wv c g env w σ H ∧ RepL K g vs ds ∧ gd ds env w Q ∧
  ∀ env' w' σ' H' g', g.le g' → Bx K Wv c g' env' w' σ' H' → SameW sl σ σ' → Q env' w' → Qv σ' H'
structure DG (X : Cx) (Wv : WX) (tg : Expr) (sl : List Nat) (gd : DTG) : Prop where
  pg : PG X tg (liftG X.K Wv sl gd)
structure DGs (X : Cx) (Wv : WX) (ts : List Expr) (sl : List Nat) (gd : DTGs) : Prop where
  pg : PGs X ts (liftGs X.K Wv sl gd)
theorem PG_imp {X : Cx} {e : Expr} {t t' : TG} (h : PG X e t) (i : ∀ v σ H Q, t' v σ H Q → t v σ H Q) : PG X e t' := ⟨fun pins s σ H v u Q I r q => h.run pins s σ H v u Q I r (i v σ H Q q)⟩
theorem PGs_imp {X : Cx} {e : List Expr} {t t' : TGs} (h : PGs X e t) (i : ∀ v σ H Q, t' v σ H Q → t v σ H Q) : PGs X e t' := ⟨fun pins s σ H v u Q I r q => h.run pins s σ H v u Q I r (i v σ H Q q)⟩
theorem PI_imp {X : Cx} {tg e : Expr} {t t' : TI} (h : PI X tg e t) (i : ∀ σ H R, t' σ H R → t σ H R) : PI X tg e t' := ⟨fun pins s σ H R I q => h.run pins s σ H R I (i σ H R q)⟩
theorem wipe_set (σ : St) (i : Nat) (x : Option V) : ∀ vs : List Nat, i ∈ vs → wipe (σ.set i x) vs = wipe σ vs
  | v :: vs, h => by
    unfold wipe
    by_cases e : i ∈ vs
    · rw [wipe_set σ i x vs e]
    · have hv : v = i := (List.mem_cons.mp h).elim (fun z => z.symm) fun z => absurd z e
      subst hv
      have key : ∀ (us : List Nat) (τ : St), (wipe (τ.set v x) us).set v none = (wipe τ us).set v none := by
        intro us
        induction us with
        | nil =>
          intro τ
          show (τ.set v x).set v none = τ.set v none
          rw [List.set_set]
        | cons u us ih =>
          intro τ
          unfold wipe
          by_cases hu : u = v
          · subst hu
            rw [List.set_set, List.set_set]
            exact ih τ
          · rw [List.set_comm _ _ hu, ih τ, List.set_comm _ _ (Ne.symm hu)]
      exact key vs σ
theorem SameW.rfl {sl : List Nat} {σ : St} : SameW sl σ σ := fun _ _ => Eq.refl _
def gdName (i : Nat) : DTG := fun d env w Q => Q (env.set i (some d)) w
def gdNil : DTGs := fun ds env w Q => ds = [] ∧ Q env w
def gdCons (t : DTG) (u : DTGs) : DTGs := fun ds env w Q => match ds with
  | d :: r => t d env w fun env1 w1 => u r env1 w1 Q
  | [] => False
def gdTup (n : Nat) (t : DTGs) : DTG := fun d env w Q => match d with
  | .tup xs => xs.length = n ∧ t xs env w Q
  | _ => False
section
variable {X : Cx} {Wv : WX} {pos : Pos}
theorem dg_name (i : Nat) {x : Str} (hN : X.N.Nodup) (hi : X.N[i]? = some x := by rfl) (hx : Loc X.env.scope x := by first | exact Or.inl rfl | exact Or.inr rfl) (hf : X.fn x = true ∨ X.env.scope.names.lookup x = some .local := by first | exact .inl rfl | exact .inr rfl | assumption) : DG X Wv (.Name x pos) [i] (gdName i) :=
  ⟨PG_imp (pg_name hN hi hx hf) fun v σ H Qv ⟨c, g, env, w, d, Q, B, r, q, k⟩ => k _ w _ H g .rfl (B.env (B.E.set r)) (fun vs hv => wipe_set σ i _ vs (hv i (by simp))) q⟩
theorem dgs_nil : DGs X Wv [] [] gdNil := ⟨PGs_imp pgs_nil fun v σ H Qv ⟨c, g, env, w, d, Q, B, r, q, k⟩ => by
  obtain ⟨rfl, q⟩ := q
  cases r
  exact ⟨rfl, k _ w _ H g .rfl B .rfl q⟩⟩
theorem dgs_cons {e : Expr} {es : List Expr} {t : DTG} {u : DTGs} {sl sl' : List Nat} (h1 : DG X Wv e sl t) (h2 : DGs X Wv es sl' u)
    (hs : (assignEach (e :: es) X.env).map (·.2) = assign e X.env :: (assignEach es X.env).map (·.2) := by rfl) : DGs X Wv (e :: es) (sl ++ sl') (gdCons t u) :=
  ⟨PGs_imp (pgs_cons h1.pg h2.pg hs) fun v σ H Qv ⟨c, g, env, w, d, Q, B, r, q, k⟩ => by
    cases r with
    | nil => exact q.elim
    | cons a r =>
      refine ⟨_, _, rfl, c, g, env, w, _, _, B, a, q, fun env1 w1 σ1 H1 g1 l1 B1 s1 q1 => ?_⟩
      refine ⟨c, g1, env1, w1, _, Q, B1, r.le l1, q1, fun env2 w2 σ2 H2 g2 l2 B2 s2 q2 => k env2 w2 σ2 H2 g2 (l1.trans l2) B2 (fun vs hv => ?_) q2⟩
      rw [s2 vs fun i hi => hv i (List.mem_append_right _ hi), s1 vs fun i hi => hv i (List.mem_append_left _ hi)]⟩
theorem dg_tup {es : List Expr} {k : Nat} {t : DTGs} {n : Nat} {sl : List Nat} (hc : X.calm = true) (h : DGs X Wv es sl t) (hn : (assignEach es X.env).length = n := by rfl) (hst : (assignEach es X.env).findIdx? (·.1) = none := by rfl) :
    DG X Wv (.Tuple es k pos) sl (gdTup n t) :=
  ⟨PG_imp (pg_tup hc h.pg hn hst) fun v σ H Qv ⟨c, g, env, w, d, Q, B, r, q, k⟩ => by
    cases r with
    | tup hs r =>
      have q : _ ∧ _ := q
      exact ⟨_, _, rfl, B.R.sqT hs, by rw [r.length]; exact q.1, c, g, env, w, _, Q, B, r, q.2, k⟩
    | _ => exact False.elim q⟩
end
def dAsg (te : DTE) (gd : DTG) : DTS := fun D env w => te env w fun x w1 => gd x env w1 D.nx
theorem ds_asg {X : Cx} {Wv : WX} {tg e : Expr} {te : DTE} {gd : DTG} {sl : List Nat} {pos : Pos} (he : DE X Wv e te) (hg : DG X Wv tg sl gd) (hs : swapsWithSole [tg] e pos.line X.env = pure false := by rfl) (hw : swappedStores [tg] e X.env = pure none := by rfl)
    (h1 : (assignEach [tg] X.env).map (·.2) = [assign tg X.env] := by rfl) : DS X Wv (.Assign [tg] e pos) (dAsg te gd) :=
  ⟨PS_imp (ps_asg he.pe hg.pg hs hw h1) fun Dv σ H ⟨c, g, env, w, D, B, q, k⟩ => bindE B q fun v H1 g1 w1 x l1 B1 r1 q1 =>
    ⟨c, g1, env, w1, x, D.nx, B1, r1, q1, fun env2 w2 σ2 H2 g2 l2 B2 _ q2 => k.nx env2 w2 σ2 H2 g2 (l1.trans l2) B2 q2⟩⟩
def updL (L : Addr → Option Obj) (d : Addr) (o : Obj) : Addr → Option Obj := fun b => if b = d then some o else L b
theorem updL_same {L : Addr → Option Obj} {d : Addr} {o : Obj} : updL L d o d = some o := if_pos rfl
theorem updL_ne {L : Addr → Option Obj} {d b : Addr} {o : Obj} (h : b ≠ d) : updL L d o b = L b := if_neg h
def NoFz (X : Cx) (d : Addr) : Prop := ∀ o' u', X.H_0 d ≠ some (.frz o' u')
def unlV (X : Cx) (Q : VK) : VK := fun v H => Q v H ∨ ∃ d od u, H d = some (.frz od u) ∧ NoFz X d ∧ Q v (upd H d u)
def unlS (X : Cx) (Q : St → Hp → Prop) : St → Hp → Prop := fun σ H => Q σ H ∨ ∃ d od u, H d = some (.frz od u) ∧ NoFz X d ∧ Q σ (upd H d u)
def unlW (X : Cx) (W : WX) : WX := fun cls dx σ H => W cls dx σ H ∨ ∃ d od u, H d = some (.frz od u) ∧ NoFz X d ∧ W cls dx σ (upd H d u)
section
variable {X : Cx}
theorem pe_unl {e : Expr} {t : TE} (h : PE X e t) : PE X e fun σ H Q => t σ H (unlV X Q) := by
  refine ⟨fun pins s σ H Q I hw => thn (h.run pins s σ H _ I hw) fun v s1 ⟨x, H1, I1, r, q⟩ => ?_⟩
  rcases q with q | ⟨d, od, u, e, nf, q⟩
  · exact ⟨x, H1, I1, r, q⟩
  · exact ⟨x, _, I1.unlock e nf, r, q⟩
theorem pe_lk {e : Expr} {t : TE} (h : PE X e t) : PE X e fun σ H Q => t σ H fun v H1 => Q v H1 ∨ ∃ d u, H1 d = some u ∧ Mut (some u) ∧ ∀ od, NoFz X d → Q v (upd H1 d (.frz od u)) := by
  refine ⟨fun pins s σ H Q I hw => thn (h.run pins s σ H _ I hw) fun v s1 ⟨x, H1, I1, r, q⟩ => ?_⟩
  rcases q with q | ⟨d, u, e, mu, q⟩
  · exact ⟨x, H1, I1, r, q⟩
  · obtain ⟨od, I2⟩ := I1.lock e mu
    exact ⟨x, _, I2, r, q od (I1.nofrz e mu)⟩
theorem ps_unl {st : Stmt} {t : TS} (h : PS X st t) : PS X st fun D σ H => t ⟨unlS X D.nx, unlV X D.rt, unlS X D.bk, unlS X D.ct⟩ σ H := by
  refine ⟨fun pins s σ H D I hw => thn (h.run pins s σ H _ I hw) fun f s1 q => ?_⟩
  have go : ∀ {Q : St → Hp → Prop}, (∃ σ' H', Inv X pins σ' H' s1 ∧ unlS X Q σ' H') → ∃ σ' H', Inv X pins σ' H' s1 ∧ Q σ' H' := fun {Q} ⟨σ', H', I1, q⟩ => by
    rcases q with q | ⟨d, od, u, e, nf, q⟩
    · exact ⟨σ', H', I1, q⟩
    · exact ⟨σ', _, I1.unlock e nf, q⟩
  cases f with
  | next => exact go q
  | brk => exact go q
  | cont => exact go q
  | ret v =>
    obtain ⟨x, σ', H', I1, r, q⟩ := q
    rcases q with q | ⟨d, od, u, e, nf, q⟩
    · exact ⟨x, σ', H', I1, r, q⟩
    · exact ⟨x, σ', _, I1.unlock e nf, r, q⟩
theorem takes_unl {Wv : WX} (t : Takes X Wv) : Takes X (unlW X Wv) := fun u s' ⟨a, B, sI, pins, σ, H, cls, d, e, I, nb, up, sky, na, os, ag, w⟩ => by
  rcases w with w | ⟨dd, od, v, e1, nf, w⟩
  · exact t u s' ⟨a, B, sI, pins, σ, H, cls, d, e, I, nb, up, sky, na, os, ag, w⟩
  · refine t u s' ⟨a, B, sI, pins, σ, _, cls, d, e, I.unlock e1 nf, nb, up, sky, ?_, os, ag, w⟩
    rw [upd_ne (fun z => by rw [z, e1] at na; cases na)]
    exact na
end
section
variable {K : PySem.W.Frag} {c : Ck} {g : Gh} {w : W} {H : Hp} {d : Addr} {od : Obj} {u : List (Key × V)}
def Ck.lk (c : Ck) (d : Addr) (od : Obj) : Ck := { c with L := updL c.L d od }
theorem Rel.lock (R : Rel K c g w H) (hG : g.G d = some (.dK u)) : Rel K (c.lk d od) g w (upd H d (.frz od (.dK u))) := by
  have ne : ∀ {a : Addr}, g.G a = none → a ≠ d := fun {a} e z => by rw [z, hG] at e; cases e
  refine ⟨fun a v e => ?_, fun a o e => ?_, fun a m e => ?_, fun a q e => ?_, fun a e => ?_, R.ex⟩
  · by_cases ha : a = d
    · subst ha
      rw [hG] at e; cases e
      exact .inr ⟨od, updL_same, upd_same⟩
    · rw [upd_ne ha]
      show (updL c.L d od a = none ∧ _) ∨ ∃ o, updL c.L d od a = some o ∧ _
      rw [updL_ne ha]
      exact R.imm a v e
  · by_cases ha : a = d
    · subst ha; exact ⟨_, hG⟩
    · have e' : updL c.L d od a = some o := e
      rw [updL_ne ha] at e'
      exact R.lck a o e'
  · obtain ⟨h1, h2, h3, o, h4, h5⟩ := R.mu a m e
    exact ⟨h1, h2, h3, o, by rw [upd_ne (ne h1)]; exact h4, h5⟩
  · obtain ⟨h1, h2, h3⟩ := R.frm a q e
    exact ⟨by rw [upd_ne (ne h2)]; exact h1, h2, h3⟩
  · obtain ⟨h1, xs, h2, h3⟩ := R.pen a e
    exact ⟨h1, xs, by rw [upd_ne (ne h1)]; exact h2, h3⟩
theorem Rel.unlock (R : Rel K (c.lk d od) g w H) (hL : c.L d = none) (hG : g.G d = some (.dK u)) : H d = some (.frz od (.dK u)) ∧ Rel K c g w (upd H d (.dK u)) := by
  have ne : ∀ {a : Addr}, g.G a = none → a ≠ d := fun {a} e z => by rw [z, hG] at e; cases e
  refine ⟨?_, fun a v e => ?_, fun a o e => ?_, fun a m e => ?_, fun a q e => ?_, fun a e => ?_, R.ex⟩
  · rcases R.imm d _ hG with ⟨h, _⟩ | ⟨o, h, h2⟩
    · have h : updL c.L d od d = none := h
      rw [updL_same] at h; cases h
    · have h : updL c.L d od d = some o := h
      rw [updL_same] at h; cases h
      exact h2
  · by_cases ha : a = d
    · subst ha
      rw [hG] at e; cases e
      exact .inl ⟨hL, upd_same⟩
    · rw [upd_ne ha]
      have q := R.imm a v e
      have q : (updL c.L d od a = none ∧ _) ∨ ∃ o, updL c.L d od a = some o ∧ _ := q
      rw [updL_ne ha] at q
      exact q
  · have ha : a ≠ d := fun z => by rw [z, hL] at e; cases e
    exact R.lck a o (by show updL c.L d od a = some o; rw [updL_ne ha]; exact e)
  · obtain ⟨h1, h2, h3, o, h4, h5⟩ := R.mu a m e
    exact ⟨h1, h2, h3, o, by rw [upd_ne (ne h1)]; exact h4, h5⟩
  · obtain ⟨h1, h2, h3⟩ := R.frm a q e
    exact ⟨by rw [upd_ne (ne h2)]; exact h1, h2, h3⟩
  · obtain ⟨h1, xs, h2, h3⟩ := R.pen a e
    exact ⟨h1, xs, by rw [upd_ne (ne h1)]; exact h2, h3⟩
end
def Lk (X : Cx) (c c1 : Ck) (g : Gh) : Prop := c1 = c ∨ ∃ d od u, c.L d = none ∧ g.G d = some (.dK u) ∧ c1 = c.lk d od ∧ NoFz X d
section
variable {X : Cx} {Wv Wv' : WX} {c c1 : Ck} {g g1 g2 : Gh} {env env2 : En} {w w1 w2 : W} {σ σ2 : St} {H H1 H2 : Hp}
theorem Lk.e (lk : Lk X c c1 g) : c1.e = c.e := by
  rcases lk with rfl | ⟨d, od, u, _, _, rfl, _⟩ <;> rfl
theorem Lk.rel (lk : Lk X c c1 g1) (l : g1.le g2) (R : Rel X.K c1 g2 w2 H2) : Rel X.K c g2 w2 H2 ∨ ∃ d od u, H2 d = some (.frz od u) ∧ NoFz X d ∧ Rel X.K c g2 w2 (upd H2 d u) := by
  rcases lk with rfl | ⟨d, od, u, hL, hG, rfl, nf⟩
  · exact .inl R
  · obtain ⟨e, R'⟩ := R.unlock hL (l.G _ _ hG)
    exact .inr ⟨d, od, _, e, nf, R'⟩
theorem Lk.out {Q : DK} {Qv : VK} {v : V} (lk : Lk X c c1 g1) (l0 : g.le g2) (l : g1.le g2) (k : ∀ v H', PQ X.K c g Q v H' → Qv v H') (q : PQ X.K c1 g2 Q v H2) : unlV X Qv v H2 := by
  obtain ⟨g', w', d, l', R', r, q⟩ := q
  rcases lk.rel (l.trans l') R' with R | ⟨d, od, u, e, nf, R⟩
  · exact .inl (k _ _ ⟨g', w', _, l0.trans l', R, r, q⟩)
  · exact .inr ⟨d, od, u, e, nf, k _ _ ⟨g', w', _, l0.trans l', R, r, q⟩⟩
theorem Bx.unlk (B : Bx X.K Wv c g env w σ H) (lk : Lk X c c1 g1) (l0 : g.le g2) (l : g1.le g2) (B2 : Bx X.K Wv' c1 g2 env2 w2 σ2 H2) :
    Bx X.K Wv c g2 env2 w2 σ2 H2 ∨ ∃ d od u, H2 d = some (.frz od u) ∧ NoFz X d ∧ Bx X.K Wv c g2 env2 w2 σ2 (upd H2 d u) := by
  have hX := fun env' σ' H' cls d g' (l2 : g2.le g') => B.X env' σ' H' cls d g' (l0.trans l2)
  rcases lk.rel l B2.R with R | ⟨d, od, u, e, nf, R⟩
  · exact .inl ⟨R, B2.E, hX⟩
  · exact .inr ⟨d, od, u, e, nf, R, B2.E, hX⟩
theorem Bx.lk (B : Bx X.K Wv c g env w σ H) (lk : Lk X c c1 g1) (l : g.le g1) (R : Rel X.K c1 g1 w1 H1) : Bx X.K (unlW X Wv) c1 g1 env w1 σ H1 := by
  refine ⟨R, B.E.le l, fun env' σ' H' cls dx g' l' e' px => ?_⟩
  obtain ⟨g3, w3, C, fs, e1, l3, R3, e3, m3⟩ := px
  rw [lk.e] at e3
  have key : ∀ {H4 : Hp}, Rel X.K c g3 w3 H4 → Wv cls dx σ' H4 := fun {H4} R4 =>
    B.X env' σ' H4 cls dx g' (l.trans l') e' ⟨g3, w3, C, fs, e1, l3, R4, e3, m3⟩
  rcases lk.rel (l'.trans l3) R3 with R4 | ⟨d, od, u, e, nf, R4⟩
  · exact .inl (key R4)
  · exact .inr ⟨d, od, u, e, nf, key R4⟩
theorem Lk.outS {Q : En → W → Prop} {Qs : St → Hp → Prop} (B : Bx X.K Wv c g env w σ H) (lk : Lk X c c1 g1) (l0 : g.le g2) (l : g1.le g2) (B2 : Bx X.K Wv' c1 g2 env2 w2 σ2 H2) (k : ∀ env w σ H g', g.le g' → Bx X.K Wv c g' env w σ H → Q env w → Qs σ H) (q : Q env2 w2) : unlS X Qs σ2 H2 :=
  (B.unlk lk l0 l B2).elim (fun b => .inl (k _ _ _ _ _ l0 b q)) fun ⟨d, od, u, e, nf, b⟩ => .inr ⟨d, od, u, e, nf, k _ _ _ _ _ l0 b q⟩
end
structure IsIt (K : PySem.W.Frag) (L : Addr → Option Obj) (g0 : Gh) (items : List D) (J : It) : Prop where
  go : ∀ c i w H g, c.L = L → g0.le g → Rel K c g w H → i < items.length → J.go i H
  yld : ∀ c i w H g x H' d, c.L = L → g0.le g → Rel K c g w H → items[i]? = some d → J.yld i H x H' → ∃ g', g.le g' ∧ Rel K c g' w H' ∧ Rep K g' x d ∧ (∀ a o, H a = some o → H' a = some o)
  stop : ∀ c w H g, c.L = L → g0.le g → Rel K c g w H → J.stop items.length H
abbrev DTI := En → W → (List D → W → Prop) → Prop
def liftI (X : Cx) (Wv : WX) (ti : DTI) : TI := fun σ H Rv => ∃ c g env w Q, Bx X.K Wv c g env w σ H ∧ ti env w Q ∧
  ∀ items w1 H1 g1 J c1, g.le g1 → Lk X c c1 g1 → Rel X.K c1 g1 w1 H1 → IsIt X.K c1.L g1 items J → Q items w1 → Rv J H1
structure DI (X : Cx) (Wv : WX) (tg iter : Expr) (ti : DTI) : Prop where
  pi : PI X tg iter (liftI X Wv ti)
def signs (x : Str) : List D := x.cps.toList.map fun c => .str ⟨#[c]⟩
def dItS (t : DTE) : DTI := fun env w Q => t env w fun x w1 => match x with
  | .str x => Q (signs x) w1
  | _ => False
def rangeD (lo : Int) (n : Nat) : List D := (List.range n).map fun (i : Nat) => .int (lo + (i : Int))
def dRng1 (t : DTA) : DTI := fun env w Q => t env w fun xs w1 => match xs with
  | [.int j] => -(2 ^ 62) ≤ j ∧ j < 2 ^ 62 ∧ Q (rangeD 0 j.toNat) w1
  | _ => False
theorem isIt_list {K : PySem.W.Frag} {L : Addr → Option Obj} {g : Gh} {a : Addr} {xs : List V} {ds : List D} (s : SqL K g.G a xs) (r : RepL K g xs ds) : IsIt K L g ds (Itl K a) where
  go := fun c i w H g' _ l R hi => by
    have hx : i < xs.length := by rw [r.length]; exact hi
    exact ⟨xs, xs[i], R.sqL (SqL_le l s), by simp [hx]⟩
  yld := fun c i w H g' x H' d _ l R hd ⟨e, y⟩ => by
    subst e
    have h1 := y xs (R.sqL (SqL_le l s))
    obtain ⟨u, a, b⟩ := r.get hd
    rw [h1] at a; cases a
    exact ⟨g', .rfl, R, b.le l, fun _ _ z => z⟩
  stop := fun c w H g' _ l R => ⟨xs, R.sqL (SqL_le l s), by rw [r.length]; exact Nat.le_refl _⟩
theorem isIt_tup {K : PySem.W.Frag} {L : Addr → Option Obj} {g : Gh} {a : Addr} {xs : List V} {ds : List D} (s : SqT K g.G a xs) (r : RepL K g xs ds) : IsIt K L g ds (Itt K a) where
  go := fun c i w H g' _ l R hi => by
    have hx : i < xs.length := by rw [r.length]; exact hi
    exact ⟨xs, xs[i], R.sqT (SqT_le l s), by simp [hx]⟩
  yld := fun c i w H g' x H' d _ l R hd ⟨e, y⟩ => by
    subst e
    have h1 := y xs (R.sqT (SqT_le l s))
    obtain ⟨u, a, b⟩ := r.get hd
    rw [h1] at a; cases a
    exact ⟨g', .rfl, R, b.le l, fun _ _ z => z⟩
  stop := fun c w H g' _ l R => ⟨xs, R.sqT (SqT_le l s), by rw [r.length]; exact Nat.le_refl _⟩
theorem isIt_range {K : PySem.W.Frag} {L : Addr → Option Obj} {g : Gh} {lo : Int} {n : Nat} : IsIt K L g (rangeD lo n) (Itr lo n) where
  go := fun c i w H g' _ l R hi => by
    have h : i < (rangeD lo n).length := hi
    show i < n
    simpa [rangeD] using h
  yld := fun c i w H g' x H' d _ l R hd ⟨e, y⟩ => by
    subst e
    refine ⟨g', .rfl, R, ?_, fun _ _ z => z⟩
    unfold rangeD at hd
    rw [List.getElem?_map] at hd
    cases q : (List.range n)[i]? with
    | none => rw [q] at hd; cases hd
    | some j =>
      rw [q] at hd; cases hd
      obtain ⟨hi, hj⟩ := List.getElem?_eq_some_iff.mp q
      rw [List.getElem_range] at hj
      subst hj
      rw [y]
      exact .int _
  stop := fun c w H g' _ l R => by
    show n ≤ (rangeD lo n).length
    simp [rangeD]
theorem isIt_str {K : PySem.W.Frag} {L : Addr → Option Obj} {g : Gh} {z : Str} : IsIt K L g (signs z) (Its z) where
  go := fun c i w H g' _ l R hi => by
    have h : i < (signs z).length := hi
    show i < z.cps.size
    simpa [signs] using h
  yld := fun c i w H g' x H' d _ l R hd ⟨e, ch, hc, y⟩ => by
    subst e
    refine ⟨g', .rfl, R, ?_, fun _ _ z => z⟩
    unfold signs at hd
    rw [List.getElem?_map, Array.getElem?_toList, hc] at hd
    cases hd
    rw [y]
    exact .str _
  stop := fun c w H g' _ l R => by
    show z.cps.size ≤ (signs z).length
    simp [signs]
section
variable {X : Cx} {Wv : WX} {tg e a b : Expr} {t : DTE} {ta : DTA} {p pos : Pos}
theorem di_str (h : DE X Wv e t) : DI X Wv tg e (dItS t) :=
  ⟨PI_imp (pi_str h.pe) fun σ H Rv ⟨c, g, env, w, Q, B, q, k⟩ => bindE B q fun v H1 g1 w1 x l1 B1 r1 q1 => by
    cases r1 with
    | str s => exact ⟨_, rfl, k _ w1 H1 g1 _ _ l1 (.inl rfl) B1.R isIt_str q1⟩
    | _ => exact False.elim q1⟩
theorem di_range1 (hm : X.mg "range" = none) (ha : DA X Wv [a] ta) (hg : Gl X "range" := by rfl) (hs : starEach [a] X.env = [(false, eval a X.env)] := by rfl) : DI X Wv tg (.Call (.Name "range" p) [a] [] pos) (dRng1 ta) :=
  ⟨PI_imp (pi_range1 hg hm ha.pa hs) fun σ H Rv ⟨c, g, env, w, Q, B, q, k⟩ => bindA B q fun vs H1 g1 w1 xs l1 B1 r1 q1 => by
    unfold dRng1 at q
    split at q1
    · cases r1 with
      | cons ra rr =>
        cases rr; cases ra
        exact ⟨_, rfl, q1.1, q1.2.1, k _ w1 H1 g1 _ _ l1 (.inl rfl) B1.R isIt_range q1.2.2⟩
    · exact q1.elim⟩
end
def dFor (ti : DTI) (gd : DTG) (tb : DTS) : DTS := fun D env w => ti env w fun items w1 => ∃ Pv : Nat → En → W → Prop, Pv 0 env w1 ∧
  (∀ i x env w, items[i]? = some x → Pv i env w → gd x env w fun env2 w2 => tb { D with nx := Pv (i + 1), ct := Pv (i + 1), bk := D.nx } env2 w2) ∧ ∀ env w, Pv items.length env w → D.nx env w
theorem ds_for {X : Cx} {Wv : WX} {tg iter : Expr} {body : List Stmt} {ti : DTI} {gd : DTG} {tb : DTS} {sl : List Nat} {pos : Pos} (hp : PassesOwn (model X.prog X.w) X.A X.env X.xe) (hc : X.calm = true) (hi : DI X Wv tg iter ti) (hg : DG X (unlW X Wv) tg sl gd) (hb : DSs X (unlW X Wv) body tb)
    (hs : ∀ x, foldedSetIterable iter X.env x = pure x := by intro _; rfl) : DS X Wv (.For tg iter body [] pos) (dFor ti gd tb) := by
  refine ⟨PS_imp (ps_unl (ps_for hp hc hi.pi hg.pg hb.ps hs)) fun Dv σ H ⟨c, g, env, w, D, B, q, k⟩ => ?_⟩
  refine ⟨c, g, env, w, _, B, q, fun items w1 H1 g1 J c1 l1 lk R1 it q1 => ?_⟩
  obtain ⟨Pv, h0, hstep, hd⟩ := q1
  refine ⟨fun i m σ H => m = items.length - i ∧ i ≤ items.length ∧ ∃ g2 env w2, g1.le g2 ∧ Bx X.K (unlW X Wv) c1 g2 env w2 σ H ∧ Pv i env w2, ⟨items.length, by simp, Nat.zero_le _, g1, env, w1, .rfl, B.lk lk l1 R1, h0⟩, ?_⟩
  rintro i m σ2 H2 ⟨rfl, hi, g2, env2, w2, l2, B2, p⟩
  by_cases hlt : i < items.length
  · refine .inr ⟨it.go c1 i w2 H2 g2 rfl l2 B2.R hlt, fun σ3 H3 => ∃ g3 env w3, g1.le g3 ∧ Bx X.K (unlW X Wv) c1 g3 env w3 σ3 H3 ∧ Pv (i + 1) env w3, fun σ3 H3 ⟨g3, env3, w3, l3, B3, p3⟩ =>
      ⟨items.length - (i + 1), by omega, rfl, hlt, g3, env3, w3, l3, B3, p3⟩, fun x H' y => ?_⟩
    have hx : items[i]? = some items[i] := by simp [hlt]
    obtain ⟨g3, l3, R3, r3, _⟩ := it.yld c1 i w2 H2 g2 x H' _ rfl l2 B2.R hx y
    refine ⟨c1, g3, env2, w2, _, _, B2.step l3 R3, r3, hstep i _ env2 w2 hx p, fun env4 w4 σ4 H4 g4 l4 B4 _ q4 => ?_⟩
    refine ⟨c1, g4, env4, w4, _, B4, q4, ⟨fun env5 w5 σ5 H5 g5 l5 B5 q5 => ⟨g5, env5, w5, ((l2.trans l3).trans l4).trans l5, B5, q5⟩, fun v H5 q5 => lk.out (((l1.trans l2).trans l3).trans l4) ((l2.trans l3).trans l4) k.rt q5, fun env5 w5 σ5 H5 g5 l5 B5 q5 => ?_, fun env5 w5 σ5 H5 g5 l5 B5 q5 => ⟨g5, env5, w5, ((l2.trans l3).trans l4).trans l5, B5, q5⟩⟩⟩
    exact Lk.outS B lk ((((l1.trans l2).trans l3).trans l4).trans l5) (((l2.trans l3).trans l4).trans l5) B5 k.nx q5
  · have e : i = items.length := by omega
    subst e
    exact .inl ⟨it.stop c1 w2 H2 g2 rfl l2 B2.R, Lk.outS B lk (l1.trans l2) l2 B2 k.nx (hd env2 w2 p)⟩
def dWhile (tc : DTT) (tb : DTS) : DTS := fun D env w => ∃ Pv : Nat → En → W → Prop, (∃ m, Pv m env w) ∧ ∀ m env w, Pv m env w →
  tc env w fun b w1 => if b = true then tb { D with nx := fun env' w' => ∃ m', m' < m ∧ Pv m' env' w', ct := fun env' w' => ∃ m', m' < m ∧ Pv m' env' w', bk := D.nx } env w1 else D.nx env w1
theorem ds_while {X : Cx} {Wv : WX} {c : Expr} {body : List Stmt} {tc : DTT} {tb : DTS} {pos : Pos} (hp : PassesOwn (model X.prog X.w) X.A X.env X.xe) (hc : DT X Wv c tc) (hb : DSs X Wv body tb) : DS X Wv (.While c body [] pos) (dWhile tc tb) := by
  refine ⟨PS_imp (ps_while hp hc.pt hb.ps) fun Dv σ H ⟨c, g, env, w, D, B, q, k⟩ => ?_⟩
  obtain ⟨Pv, ⟨m0, h0⟩, hstep⟩ := q
  refine ⟨fun m σ H => ∃ g2 env w2, g.le g2 ∧ Bx X.K Wv c g2 env w2 σ H ∧ Pv m env w2, ⟨m0, g, env, w, .rfl, B, h0⟩, ?_⟩
  rintro m σ2 H2 ⟨g2, env2, w2, l2, B2, p⟩
  refine bindT B2 (hstep m env2 w2 p) fun b H3 g3 w3 l3 B3 q3 => ?_
  cases b with
  | true =>
    refine iteT ⟨fun σ4 H4 => ∃ m', m' < m ∧ ∃ g4 env4 w4, g.le g4 ∧ Bx X.K Wv c g4 env4 w4 σ4 H4 ∧ Pv m' env4 w4, fun _ _ z => z, ?_⟩
    refine ⟨c, g3, env2, w3, _, B3, q3, ⟨fun env5 w5 σ5 H5 g5 l5 B5 ⟨m', hm, q5⟩ => ⟨m', hm, g5, env5, w5, (l2.trans l3).trans l5, B5, q5⟩, fun v H5 q5 => k.rt v H5 (q5.up (l2.trans l3)), fun env5 w5 σ5 H5 g5 l5 B5 q5 => ?_, fun env5 w5 σ5 H5 g5 l5 B5 ⟨m', hm, q5⟩ => ⟨m', hm, g5, env5, w5, (l2.trans l3).trans l5, B5, q5⟩⟩⟩
    exact k.nx env5 w5 σ5 H5 g5 ((l2.trans l3).trans l5) B5 q5
  | false => exact iteF (k.nx env2 w3 σ2 H3 g3 (l2.trans l3) B3 q3)
section
variable {K : PySem.W.Frag} {c : Ck} {g : Gh} {w : W} {H : Hp} {p : Addr} {o o' : HO}
def Ck.fr (c : Ck) (p : Addr) (o : HO) : Ck := { c with F := upd c.F p o }
theorem Rel.allocF (R : Rel K c g w H) (h : H p = none) : Rel K (c.fr p o) g w (upd H p o) := by
  refine ⟨fun a u e => ?_, R.lck, fun a m e => ?_, fun a q e => ?_, fun a e => ?_, R.ex⟩
  · rw [upd_ne (ne_of_none e (R.noG h))]
    exact R.imm a u e
  · obtain ⟨h1, h2, h3, o', h4, h5⟩ := R.mu a m e
    have ha : a ≠ p := ne_of_none h4 h
    exact ⟨h1, by show upd c.F p o a = none; rw [upd_ne ha]; exact h2, h3, o', by rw [upd_ne ha]; exact h4, h5⟩
  · by_cases ha : a = p
    · subst ha
      have e' : upd c.F a o a = some q := e
      rw [upd_same] at e'; cases e'
      exact ⟨upd_same, R.noG h, R.noP h⟩
    · have e' : upd c.F p o a = some q := e
      rw [upd_ne ha] at e'
      rw [upd_ne ha]
      exact R.frm a q e'
  · obtain ⟨h1, xs, h2, h3⟩ := R.pen a e
    exact ⟨h1, xs, by rw [upd_ne (ne_of_none h2 h)]; exact h2, h3⟩
theorem Rel.writeF (R : Rel K (c.fr p o) g w H) : Rel K (c.fr p o') g w (upd H p o') := by
  obtain ⟨_, hG, hP⟩ := R.frm p o upd_same
  refine ⟨fun a u e => ?_, R.lck, fun a m e => ?_, fun a q e => ?_, fun a e => ?_, R.ex⟩
  · rw [upd_ne (ne_of_none e hG)]
    exact R.imm a u e
  · obtain ⟨h1, h2, h3, o1, h4, h5⟩ := R.mu a m e
    have ha : a ≠ p := fun z => by
      have h2' : upd c.F p o a = none := h2
      rw [z, upd_same] at h2'; cases h2'
    have h2' : upd c.F p o a = none := h2
    rw [upd_ne ha] at h2'
    exact ⟨h1, by show upd c.F p o' a = none; rw [upd_ne ha]; exact h2', h3, o1, by rw [upd_ne ha]; exact h4, h5⟩
  · by_cases ha : a = p
    · subst ha
      have e' : upd c.F a o' a = some q := e
      rw [upd_same] at e'; cases e'
      exact ⟨upd_same, hG, hP⟩
    · have e' : upd c.F p o' a = some q := e
      rw [upd_ne ha] at e'
      rw [upd_ne ha]
      exact R.frm a q (by show upd c.F p o a = some q; rw [upd_ne ha]; exact e')
  · obtain ⟨h1, xs, h2, h3⟩ := R.pen a e
    have ha : a ≠ p := fun z => by rw [z, hP] at e; cases e
    exact ⟨h1, xs, by rw [upd_ne ha]; exact h2, h3⟩
theorem Rel.landF (R : Rel K (c.fr p o) g w H) (hF : c.F p = none) : g.le (g.add p o) ∧ Rel K c (g.add p o) w H := by
  obtain ⟨h0, hG, hP⟩ := R.frm p o upd_same
  have le := Gh.add_le (o := o) hG
  have hL : c.L p = none := R.noL hG
  refine ⟨le, fun a u e => ?_, fun a q e => ?_, fun a m e => ?_, fun a q e => ?_, fun a e => ?_, R.ex⟩
  · by_cases ha : a = p
    · subst ha
      have e' : upd g.G a o a = some u := e
      rw [upd_same] at e'; cases e'
      exact .inl ⟨hL, h0⟩
    · have e' : upd g.G p o a = some u := e
      rw [upd_ne ha] at e'
      exact R.imm a u e'
  · obtain ⟨u, q⟩ := R.lck a q e
    exact ⟨u, le.G _ _ q⟩
  · obtain ⟨h1, h2, h3, o1, h4, h5⟩ := R.mu a m e
    have ha : a ≠ p := fun z => by
      have h2' : upd c.F p o a = none := h2
      rw [z, upd_same] at h2'; cases h2'
    have h2' : upd c.F p o a = none := h2
    rw [upd_ne ha] at h2'
    exact ⟨by show upd g.G p o a = none; rw [upd_ne ha]; exact h1, h2', h3, o1, h4, h5.le le⟩
  · have ha : a ≠ p := fun z => by rw [z, hF] at e; cases e
    obtain ⟨h1, h2, h3⟩ := R.frm a q (by show upd c.F p o a = some q; rw [upd_ne ha]; exact e)
    exact ⟨h1, by show upd g.G p o a = none; rw [upd_ne ha]; exact h2, h3⟩
  · obtain ⟨h1, xs, h2, h3⟩ := R.pen a e
    have ha : a ≠ p := fun z => by
      have e' : g.pm a = true := e
      rw [z, hP] at e'; cases e'
    exact ⟨by show upd g.G p o a = none; rw [upd_ne ha]; exact h1, xs, h2, h3.le le (Nat.le_refl _)⟩
theorem Rel.unfr (R : Rel K (c.fr p o) g w H) (hF : c.F p = none) : Rel K c g w H := by
  refine ⟨R.imm, R.lck, fun a m e => ?_, fun a q e => ?_, R.pen, R.ex⟩
  · obtain ⟨h1, h2, h3, h4⟩ := R.mu a m e
    have h2' : upd c.F p o a = none := h2
    by_cases ha : a = p
    · rw [ha, upd_same] at h2'; cases h2'
    · rw [upd_ne ha] at h2'
      exact ⟨h1, h2', h3, h4⟩
  · have ha : a ≠ p := fun z => by rw [z, hF] at e; cases e
    exact R.frm a q (by show upd c.F p o a = some q; rw [upd_ne ha]; exact e)
def noE : En → Str → Option (List (Str × D)) → Mem → Nat → Prop := fun _ _ _ _ _ => False
def Ck.mute (c : Ck) : Ck := { c with e := noE }
theorem Rel.mute (R : Rel K c g w H) : Rel K c.mute g w.mute H := ⟨R.imm, R.lck, R.mu, R.frm, R.pen, rfl⟩
theorem Rel.unmute {w0 : W} (R : Rel K c.mute g w H) (h : w0.e = c.e) : Rel K c g (w.as w0) H := ⟨R.imm, R.lck, R.mu, R.frm, R.pen, h⟩
end
abbrev W0 : WX := fun _ _ _ _ => False
def wipeD (env : En) : List Nat → En
  | [] => env
  | v :: vs => (wipeD env vs).set v none
theorem EnR.noneB {K : PySem.W.Frag} {g : Gh} {env : En} {σ : St} (e : EnR K g env σ) (i : Nat) : EnR K g (env.set i Option.none) (σ.set i Option.none) := by
  refine ⟨by rw [List.length_set, List.length_set]; exact e.len, fun j x q => ?_⟩
  by_cases h : i = j
  · subst h
    by_cases hi : i < env.length
    · rw [List.getElem?_set_self hi] at q; cases q
    · rw [List.getElem?_eq_none (by rw [List.length_set]; omega)] at q; cases q
  · rw [List.getElem?_set_ne h] at q
    rw [List.getElem?_set_ne h]
    exact e.at_ j x q
theorem EnR.wipe {K : PySem.W.Frag} {g : Gh} {env : En} {σ : St} (e : EnR K g env σ) : ∀ vs, EnR K g (wipeD env vs) (wipe σ vs)
  | [] => e
  | v :: vs => (EnR.wipe e vs).noneB v
structure DTs (X : Cx) (Wv : WX) (ifs : List Expr) (t : DTT) : Prop where
  pts : PTs X ifs (liftT X.K Wv t)
def dYes : DTT := fun _ w Q => Q true w
theorem dts_nil {X : Cx} {Wv : WX} : DTs X Wv [] dYes := ⟨⟨fun pins s σ H Qv I ⟨c, g, env, w, Q, B, q, k⟩ => pts_nil.run pins s σ H Qv I (k true H ⟨g, w, .rfl, B.R, q⟩)⟩⟩
theorem dts_one {X : Cx} {Wv : WX} {c : Expr} {t : DTT} (h : DT X Wv c t) : DTs X Wv [c] t := ⟨pts_one h.pt⟩
def dLcG (fin : List D → W → DK → Prop) (ti : DTI) (gd : DTG) (tt : DTT) (te : DTE) (vs : List Nat) : DTE := fun env w Q => ti env w fun items w1 => items.length ≤ sizeLine ∧ ∃ Pv : Nat → List D → W → Prop, Pv 0 [] w1 ∧
  (∀ i x acc w2, items[i]? = some x → acc.length ≤ i → Pv i acc w2 → gd x (wipeD env vs) w2.mute fun env2 w3 => tt env2 w3 fun b w4 => if b = true then te env2 w4 fun y w5 => Pv (i + 1) (acc ++ [y]) (w5.as w1) else Pv (i + 1) acc (w4.as w1)) ∧
  ∀ acc w2, Pv items.length acc w2 → fin acc w2 Q
def finL : List D → W → DK → Prop := fun acc w Q => Q (.lst acc) w
def FinOk (K : PySem.W.Frag) (fin : List D → W → DK → Prop) : Prop := ∀ (c : Ck) (g : Gh) (w : W) (H : Hp) (p : Addr) (xs : List V) (ds : List D) (Q : DK), Rel K (c.fr p (.lst xs)) g w H → c.F p = none → RepL K g xs ds → fin ds w Q → PQ K c g Q (.ref p) H
theorem finL_ok {K : PySem.W.Frag} : FinOk K finL := fun c g w H p xs ds Q R hF r q => by
  obtain ⟨l, R'⟩ := R.landF hF
  exact ⟨_, w, _, l, R', .lst (.inl (.inl Gh.add_at)) (r.le l), q⟩
theorem lc_lift {X : Cx} {Wv : WX} {fin : List D → W → DK → Prop} (hfin : FinOk X.K fin) {ti : DTI} {gd : DTG} {tt : DTT} {te : DTE} {sl vs : List Nat} (hsl : ∀ i ∈ sl, i ∈ vs) {σ : St} {H : Hp} {Qv : VK} (h : liftE X.K Wv (dLcG fin ti gd tt te vs) σ H Qv) :
    tLc (liftI X Wv ti) (liftG X.K W0 sl gd) (liftT X.K W0 tt) (liftE X.K W0 te) vs σ H (unlV X Qv) := by
  obtain ⟨c, g, env, w, Q, B, q, k⟩ := h
  refine ⟨c, g, env, w, _, B, q, fun items w1 H1 g1 J c1 l1 lk R1 it q1 => fun D hD => ?_⟩
  obtain ⟨hz, Pv, h0, hstep, hd⟩ := q1
  have hF : c1.F D = none := R1.noF hD
  refine ⟨fun i m H => m = items.length - i ∧ i ≤ items.length ∧ ∃ g2 acc accv w2, g1.le g2 ∧ RepL X.K g2 accv acc ∧ acc.length ≤ i ∧ Rel X.K (c1.fr D (.lst accv)) g2 w2 H ∧ Pv i acc w2,
    ⟨items.length, by simp, Nat.zero_le _, g1, [], [], w1, .rfl, .nil, Nat.le_refl _, R1.allocF hD, h0⟩, ?_⟩
  rintro i m H2 ⟨rfl, hi, g2, acc, accv, w2, l2, r2, ha, R2, p⟩
  by_cases hlt : i < items.length
  · refine .inr ⟨it.go (c1.fr D (.lst accv)) i w2 H2 g2 rfl l2 R2 hlt, fun H3 => ∃ g3 acc accv w3, g1.le g3 ∧ RepL X.K g3 accv acc ∧ acc.length ≤ i + 1 ∧ Rel X.K (c1.fr D (.lst accv)) g3 w3 H3 ∧ Pv (i + 1) acc w3, fun H3 ⟨g3, acc3, accv3, w3, z⟩ =>
      ⟨items.length - (i + 1), by omega, rfl, hlt, g3, acc3, accv3, w3, z⟩, fun x H' y => ?_⟩
    have hx : items[i]? = some items[i] := by simp [hlt]
    obtain ⟨g3, l3, R3, r3, _⟩ := it.yld (c1.fr D (.lst accv)) i w2 H2 g2 x H' _ rfl l2 R2 hx y
    have e1 : w1.e = c1.e := R1.ex
    have Bm : Bx X.K W0 (c1.fr D (.lst accv)).mute g3 (wipeD env vs) w2.mute (wipe σ vs) H' := ⟨R3.mute, (B.E.le ((l1.trans l2).trans l3)).wipe vs, fun _ _ _ _ _ _ _ _ px => by
      obtain ⟨_, _, _, _, _, _, _, z, _⟩ := px
      exact z⟩
    refine ⟨_, g3, _, _, _, _, Bm, r3, hstep i _ acc w2 hx ha p, fun env4 w4 σ4 H4 g4 l4 B4 s4 q4 => ⟨?_, ?_⟩⟩
    · have e := s4 vs hsl
      rw [e]
      have ww : ∀ us : List Nat, (∀ i ∈ us, i ∈ vs) → wipe (wipe σ vs) us = wipe σ vs := by
        intro us
        induction us with
        | nil => intro _; rfl
        | cons u us ih =>
          intro hu
          show (wipe (wipe σ vs) us).set u Option.none = wipe σ vs
          rw [ih fun i hi => hu i (List.mem_cons_of_mem _ hi)]
          have hm := hu u List.mem_cons_self
          have key : ∀ ws : List Nat, u ∈ ws → (wipe σ ws).set u none = wipe σ ws := by
            intro ws
            induction ws with
            | nil => intro h; cases h
            | cons v ws ih2 =>
              intro h
              unfold wipe
              by_cases e : u = v
              · subst e; rw [List.set_set]
              · rw [List.set_comm _ _ (Ne.symm e), ih2 ((List.mem_cons.mp h).resolve_left e)]
          exact key vs hm
      exact ww vs fun _ h => h
    · refine bindT B4 q4 fun b H5 g5 w5 l5 B5 q5 => ?_
      have c3 : ∀ {g' : Gh} {w' : W} {H' : Hp}, Rel X.K (c1.fr D (.lst accv)).mute g' w' H' → Rel X.K (c1.fr D (.lst accv)) g' (w'.as w1) H' := fun R => R.unmute e1
      cases b with
      | true =>
        refine iteT (bindE B5 q5 fun v H6 g6 w6 y l6 B6 r6 q6 => ?_)
        have R6 := c3 B6.R
        refine ⟨accv, (R6.frm D _ upd_same).1, by have := r2.length; omega, g6, acc ++ [y], accv ++ [v], w6.as w1, (((l2.trans l3).trans l4).trans l5).trans l6, (r2.le (((l3.trans l4).trans l5).trans l6)).append (.cons r6 .nil), by rw [List.length_append]; simpa using ha, R6.writeF, q6⟩
      | false => exact iteF ⟨g5, acc, accv, w5.as w1, ((l2.trans l3).trans l4).trans l5, r2.le ((l3.trans l4).trans l5), by omega, c3 B5.R, q5⟩
  · have e : i = items.length := by omega
    subst e
    exact .inl ⟨it.stop (c1.fr D (.lst accv)) w2 H2 g2 rfl l2 R2, lk.out (l1.trans l2) l2 k (hfin c1 g2 w2 H2 D accv acc Q R2 hF r2 (hd acc w2 p))⟩
section
variable {X : Cx} {Wv : WX} {elt tg iter : Expr} {ifs : List Expr} {scope : Scope} {own : List (Str × Nat)} {sl : List Nat} {pos : Pos} {ti : DTI} {gd : DTG} {tt : DTT} {te : DTE} {fin : List D → W → DK → Prop}
theorem de_lcG (hfin : FinOk X.K fin) (hc : X.calm = true) (hN : X.N.Nodup) (hi : DI X Wv tg iter ti) (ok : blkC X.N X.env.scope scope own = true)
    (hg : ∀ (s : Shared) (H : Hp) (C : Addr) (cl : List (Str × Addr)) (fp : List Addr), DG (X.blk s H scope (compEnvC scope cl C X.env) fp) W0 tg sl gd)
    (ht : ∀ (s : Shared) (H : Hp) (C : Addr) (cl : List (Str × Addr)) (fp : List Addr), DTs (X.blk s H scope (compEnvC scope cl C X.env) fp) W0 ifs tt)
    (he : ∀ (s : Shared) (H : Hp) (C : Addr) (cl : List (Str × Addr)) (fp : List Addr), DE (X.blk s H scope (compEnvC scope cl C X.env) fp) W0 elt te) (hsl : (sl.all fun i => (own.map (·.2)).contains i) = true := by rfl) (hs : ∀ x, foldedSetIterable iter X.env x = pure x := by intro _; rfl) :
    DE X Wv (.ListComp elt [⟨tg, iter, ifs, 0⟩] scope pos) (dLcG fin ti gd tt te (own.map (·.2))) :=
  ⟨PE_imp (pe_unl (pe_lc hc hN hi.pi (blkOk_by ok) (fun s H C cl fp => (hg s H C cl fp).pg) (fun s H C cl fp => (ht s H C cl fp).pts) (fun s H C cl fp => (he s H C cl fp).pe) hs)) fun σ H Qv h => lc_lift hfin (fun i hi => by simpa using List.all_eq_true.mp hsl i hi) h⟩
theorem ds_setLcG (hfin : FinOk X.K fin) {i : Nat} {y : Str} {py spos : Pos} (hc : X.calm = true) (hN : X.N.Nodup) (hi : DI X Wv tg iter ti) (ok : blkC X.N X.env.scope scope own = true)
    (hg : ∀ (s : Shared) (H : Hp) (C : Addr) (cl : List (Str × Addr)) (fp : List Addr), DG (X.blk s H scope (compEnvC scope cl C X.env) fp) W0 tg sl gd)
    (ht : ∀ (s : Shared) (H : Hp) (C : Addr) (cl : List (Str × Addr)) (fp : List Addr), DTs (X.blk s H scope (compEnvC scope cl C X.env) fp) W0 ifs tt)
    (he : ∀ (s : Shared) (H : Hp) (C : Addr) (cl : List (Str × Addr)) (fp : List Addr), DE (X.blk s H scope (compEnvC scope cl C X.env) fp) W0 elt te)
    (hy : X.N[i]? = some y := by rfl) (hyl : X.env.scope.names.lookup y = some .local := by rfl) (hsw : swapsWith (.ListComp elt [⟨tg, iter, ifs, 0⟩] scope pos) (some (.Name y py)) spos.line X.env = pure true := by exact sw_true rfl rfl rfl (by decide +kernel))
    (hsl : (sl.all fun i => (own.map (·.2)).contains i) = true := by rfl) (hs : ∀ x, foldedSetIterable iter X.env x = pure x := by intro _; rfl) :
    DS X Wv (.Assign [.Name y py] (.ListComp elt [⟨tg, iter, ifs, 0⟩] scope pos) spos) (dSet i (dLcG fin ti gd tt te (own.map (·.2)))) :=
  ⟨PS_imp (ps_unl (ps_setLc hc hN hy hyl hsw hi.pi (blkOk_by ok) (fun s H C cl fp => (hg s H C cl fp).pg) (fun s H C cl fp => (ht s H C cl fp).pts) (fun s H C cl fp => (he s H C cl fp).pe) hs)) fun Dv σ H ⟨c, g, env, w, D, B, q, k⟩ =>
    lc_lift hfin (fun i hi => by simpa using List.all_eq_true.mp hsl i hi) ⟨c, g, env, w, _, B, q, fun v H1 ⟨g1, w1, d, l1, R1, r1, q1⟩ => k.nx _ w1 _ H1 g1 l1 ((B.step l1 R1).env ((B.E.le l1).set r1)) q1⟩⟩
end
end DL
namespace DL
open PySem PySem.Spec PyProof.Rows L2
theorem CallR_or {X : Cx} {f : Value} {r r' : List V → Hp → VK → Prop} (h : CallR X f r) (h' : CallR X f r') : CallR X f fun x H Q => r x H Q ∨ r' x H Q := fun pins s σ H x v Q I rx q => q.elim (h pins s σ H x v Q I rx) (h' pins s σ H x v Q I rx)
theorem opD_int {X : Cx} {f : Value → Value → Sem Value} {C : Int → Int → Prop} {g : Int → Int → Int} (h : OpR X f (rI C fun i j => .int (g i j))) : OpD X f fun x y w Q => match x, y with
    | .int i, .int j => C i j ∧ Q (.int (g i j)) w
    | _, _ => False := ⟨_, h, fun c gh w H x y v u Q Qv R r1 r2 q k => by
  cases r1 with
  | int i => cases r2 with
    | int j => exact ⟨i, j, rfl, rfl, q.1, k _ _ ⟨gh, w, _, .rfl, R, .int _, q.2⟩⟩
    | _ => exact False.elim q
  | _ => exact False.elim q⟩
section
variable {X : Cx}
theorem od_fdiv : OpD X (binaryOp .FloorDiv) fun x y w Q => match x, y with
    | .int i, .int j => CDiv i j ∧ Q (.int (i / j)) w
    | _, _ => False := opD_int op_fdiv
theorem od_mod : OpD X (binaryOp .Mod) fun x y w Q => match x, y with
    | .int i, .int j => 0 < j ∧ Q (.int (i % j)) w
    | _, _ => False := opD_int op_mod
theorem od_pow : OpD X (binaryOp .Pow) fun x y w Q => match x, y with
    | .int i, .int j => CPow i j ∧ Q (.int (i ^ j.toNat)) w
    | _, _ => False := opD_int op_pow
end
def rCatS (K : PySem.W.Frag) : R2 := fun x y H Q => ∃ l b xs zs, x = .ref l ∧ y = .ref b ∧ SqL K H l xs ∧ SqL K H b zs ∧ xs.length + zs.length ≤ sizeLine ∧ ∀ p, H p = none → Q (.ref p) (upd H p (.lst (xs ++ zs)))
theorem op_catS {X : Cx} : OpR X (binaryOp .Add) (rCatS X.K) := by
  intro pins s σ H x y v u Q I rx ry h
  obtain ⟨l, b, xs, zs, rfl, rfl, h1, h2, hz, q⟩ := h
  cases rx
  cases ry
  obtain ⟨its, r1, ⟨⟨c1, d1, t1, s1⟩, n1, e1, hc1, hd1, hs1⟩, z1⟩ := I.list h1
  obtain ⟨its2, r2, ⟨⟨c2, d2, t2, s2⟩, n2, e2, hc2, hd2, hs2⟩, z2⟩ := I.list h2
  simp only at hc1 hd1 hs1 hc2 hd2 hs2
  subst hc1 hd1 hs1 hc2 hd2 hs2
  have el := r1.length
  have el2 := r2.length
  refine concat_meets ⟨_, e1, rfl⟩ ⟨_, e2, rfl⟩ noFill_list_add seq_list_add PySem.F.slot_list_add PySem.F.entry_list_add (PySem.F.args_list_add_2 _ _)
    (list_addW l b its.toArray its2.toArray n1 n2 none none s1 s2 (by rw [List.size_toArray, List.size_toArray]; omega)) ⟨e1, e2, ?_⟩
  have ea : its.toArray ++ its2.toArray = (its ++ its2).toArray := by simp
  rw [ea]
  exact ⟨.ref _, _, I.lnew (t' := s.toks) (r1.append r2) (by rw [List.length_append]; omega), rfl, q _ I.fresh⟩
def addD : DR2 := fun x y w Q => match x, y with
  | .int i, .int j => Q (.int (i + j)) w
  | .str a, .str b => a.length + b.length ≤ sizeLine ∧ Q (.str (a ++ b)) w
  | .lst a, .lst b => a.length + b.length ≤ sizeLine ∧ Q (.lst (a ++ b)) w
  | .tup a, .tup b => a ≠ [] ∧ a.length + b.length ≤ sizeLine ∧ Q (.tup (a ++ b)) w
  | .ref p, .lst b => ∃ a, w.m p = some (.lst a) ∧ a.length + b.length ≤ sizeLine ∧ Q (.lst (a ++ b)) w
  | _, _ => False
theorem Rel.mlst {K : PySem.W.Frag} {c : Ck} {g : Gh} {w : W} {H : Hp} (R : Rel K c g w H) {p : Addr} {xs : List D} (h : w.m p = some (.lst xs)) : ∃ vs, H p = some (.lst vs) ∧ RepL K g vs xs := by
  obtain ⟨_, _, _, o, e, r⟩ := R.mu p _ h
  cases r with
  | lst r => exact ⟨_, e, r⟩
theorem Rel.mdic {K : PySem.W.Frag} {c : Ck} {g : Gh} {w : W} {H : Hp} (R : Rel K c g w H) {p : Addr} {xs : List (Key × D)} (h : w.m p = some (.dic xs)) : ∃ vs, H p = some (.dK vs) ∧ RepK K g vs xs := by
  obtain ⟨_, _, _, o, e, r⟩ := R.mu p _ h
  cases r with
  | dic r => exact ⟨_, e, r⟩
theorem newL {K : PySem.W.Frag} {c : Ck} {g : Gh} {w : W} {H : Hp} {xs : List V} {ds : List D} {Q : DK} {Qv : VK} (R : Rel K c g w H) (r : RepL K g xs ds) (q : Q (.lst ds) w) (k : ∀ v H', PQ K c g Q v H' → Qv v H') :
    ∀ p, H p = none → Qv (.ref p) (upd H p (.lst xs)) := fun p hp =>
  have l := Gh.add_le (o := .lst xs) (R.noG hp)
  k _ _ ⟨_, w, .lst ds, l, R.alloc hp, .lst (.inl (.inl Gh.add_at)) (r.le l), q⟩
theorem newT {K : PySem.W.Frag} {c : Ck} {g : Gh} {w : W} {H : Hp} {xs : List V} {ds : List D} {Q : DK} {Qv : VK} (R : Rel K c g w H) (r : RepL K g xs ds) (q : Q (.tup ds) w) (k : ∀ v H', PQ K c g Q v H' → Qv v H') :
    ∀ p, H p = none → Qv (.ref p) (upd H p (.tup xs)) := fun p hp =>
  have l := Gh.add_le (o := .tup xs) (R.noG hp)
  k _ _ ⟨_, w, .tup ds, l, R.alloc hp, .tup (.inl (.inl Gh.add_at)) (r.le l), q⟩
theorem newM {K : PySem.W.Frag} {c : Ck} {g : Gh} {w : W} {H : Hp} {xs : List V} {ds : List D} {Q : DK} {Qv : VK} (R : Rel K c g w H) (r : RepL K g xs ds) (q : ∀ p, w.m p = none → Q (.ref p) (w.put p (.lst ds))) (k : ∀ v H', PQ K c g Q v H' → Qv v H') :
    ∀ p, H p = none → Qv (.ref p) (upd H p (.lst xs)) := fun p hp =>
  k _ _ ⟨g, _, .ref p, .rfl, R.allocM hp (.lst r), .ref p, q p (R.noM hp)⟩
theorem od_add {X : Cx} : OpD X (binaryOp .Add) addD := by
  refine ⟨_, OpR_or op_add (OpR_or op_add_str (OpR_or op_catS op_catT)), fun c g w H x y v u Q Qv R r1 r2 q k => ?_⟩
  cases r1 with
  | int i => cases r2 with
    | int j => exact .inl ⟨i, j, rfl, rfl, k _ _ ⟨g, w, _, .rfl, R, .int _, q⟩⟩
    | _ => exact False.elim q
  | str i => cases r2 with
    | str j => exact .inr (.inl ⟨i, j, rfl, rfl, q.1, k _ _ ⟨g, w, _, .rfl, R, .str _, q.2⟩⟩)
    | _ => exact False.elim q
  | lst s1 r1 => cases r2 with
    | lst s2 r2 => exact .inr (.inr (.inl ⟨_, _, _, _, rfl, rfl, R.sqL s1, R.sqL s2, by rw [r1.length, r2.length]; exact q.1, newL R (r1.append r2) q.2 k⟩))
    | _ => exact False.elim q
  | @tup a xs ds s1 r1 => cases r2 with
    | @tup b ys es s2 r2 =>
      refine .inr (.inr (.inr ⟨_, _, _, _, rfl, rfl, R.sqT s1, R.sqT s2, fun z => ?_, by rw [r1.length, r2.length]; exact q.2.1, fun z => ?_, fun _ => newT R (r1.append r2) q.2.2 k⟩))
      · subst z
        cases r1
        exact q.1 rfl
      · subst z
        cases r2
        refine k _ _ ⟨g, w, _, .rfl, R, .tup s1 r1, ?_⟩
        have := q.2.2
        rw [List.append_nil] at this
        exact this
    | _ => exact False.elim q
  | ref p => cases r2 with
    | lst s2 r2 =>
      obtain ⟨a, e, q1, q2⟩ := (show ∃ a, w.m p = some (.lst a) ∧ _ ∧ _ from q)
      obtain ⟨vs, e1, r1⟩ := R.mlst e
      exact .inr (.inr (.inl ⟨_, _, _, _, rfl, rfl, SqL.of e1, R.sqL s2, by rw [r1.length, r2.length]; exact q1, newL R (r1.append r2) q2 k⟩))
    | _ => exact False.elim q
  | _ => exact False.elim q
def mulD : DR2 := fun x y w Q => match x, y with
  | .int i, .int j => CMul i j ∧ Q (.int (i * j)) w
  | .ref p, .int j => ∃ xs, w.m p = some (.lst xs) ∧ -(2 ^ 63) ≤ j ∧ j < 2 ^ 63 ∧ xs.length * j.toNat ≤ sizeLine ∧ Q (.lst (List.replicate j.toNat xs).flatten) w
  | _, _ => False
theorem RepL.rep {K : PySem.W.Frag} {g : Gh} {xs : List V} {ds : List D} (r : RepL K g xs ds) : ∀ n : Nat, RepL K g (List.replicate n xs).flatten (List.replicate n ds).flatten
  | 0 => .nil
  | n + 1 => by
    rw [List.replicate_succ, List.replicate_succ, List.flatten_cons, List.flatten_cons]
    exact r.append (RepL.rep r n)
theorem od_mul {X : Cx} : OpD X (binaryOp .Mult) mulD := by
  refine ⟨_, OpR_or op_mul op_rep, fun c g w H x y v u Q Qv R r1 r2 q k => ?_⟩
  cases r1 with
  | int i => cases r2 with
    | int j => exact .inl ⟨i, j, rfl, rfl, q.1, k _ _ ⟨g, w, _, .rfl, R, .int _, q.2⟩⟩
    | _ => exact False.elim q
  | ref p => cases r2 with
    | int j =>
      obtain ⟨xs, e, h1, h2, h3, q⟩ := (show ∃ a, w.m p = some (.lst a) ∧ _ from q)
      obtain ⟨vs, e1, r1⟩ := R.mlst e
      exact .inr ⟨_, _, _, rfl, rfl, e1, h1, h2, by rw [r1.length]; exact h3, newL R (r1.rep _) q k⟩
    | _ => exact False.elim q
  | _ => exact False.elim q
def strLt (a b : Str) : Bool := decide (a.cps.toList < b.cps.toList)
def ltD : DR2 := fun x y w Q => match x, y with
  | .int i, .int j => Q (.bl (decide (i < j))) w
  | .str a, .str b => Q (.bl (decide (a.cps.toList < b.cps.toList))) w
  | _, _ => False
def leD : DR2 := fun x y w Q => match x, y with
  | .int i, .int j => Q (.bl (decide (i ≤ j))) w
  | .str a, .str b => Q (.bl (!decide (b.cps.toList < a.cps.toList))) w
  | _, _ => False
def gtD : DR2 := fun x y w Q => match x, y with
  | .int i, .int j => Q (.bl (decide (j < i))) w
  | .str a, .str b => Q (.bl (decide (b.cps.toList < a.cps.toList))) w
  | _, _ => False
def geD : DR2 := fun x y w Q => match x, y with
  | .int i, .int j => Q (.bl (decide (j ≤ i))) w
  | .str a, .str b => Q (.bl (!decide (a.cps.toList < b.cps.toList))) w
  | _, _ => False
section
variable {X : Cx}
theorem od_lt : OpD X (compareOp .Lt) ltD := by
  refine ⟨_, OpR_or op_lt op_lt_str, fun c g w H x y v u Q Qv R r1 r2 q k => ?_⟩
  cases r1 with
  | int i => cases r2 with
    | int j => exact .inl ⟨i, j, rfl, rfl, k _ _ ⟨g, w, _, .rfl, R, .bl _, q⟩⟩
    | _ => exact False.elim q
  | str i => cases r2 with
    | str j => exact .inr ⟨i, j, rfl, rfl, k _ _ ⟨g, w, _, .rfl, R, .bl _, q⟩⟩
    | _ => exact False.elim q
  | _ => exact False.elim q
theorem od_le : OpD X (compareOp .LtE) leD := by
  refine ⟨_, OpR_or op_le op_le_str, fun c g w H x y v u Q Qv R r1 r2 q k => ?_⟩
  cases r1 with
  | int i => cases r2 with
    | int j => exact .inl ⟨i, j, rfl, rfl, k _ _ ⟨g, w, _, .rfl, R, .bl _, q⟩⟩
    | _ => exact False.elim q
  | str i => cases r2 with
    | str j => exact .inr ⟨i, j, rfl, rfl, k _ _ ⟨g, w, _, .rfl, R, .bl _, q⟩⟩
    | _ => exact False.elim q
  | _ => exact False.elim q
theorem od_gt : OpD X (compareOp .Gt) gtD := by
  refine ⟨_, OpR_or op_gt op_gt_str, fun c g w H x y v u Q Qv R r1 r2 q k => ?_⟩
  cases r1 with
  | int i => cases r2 with
    | int j => exact .inl ⟨i, j, rfl, rfl, k _ _ ⟨g, w, _, .rfl, R, .bl _, q⟩⟩
    | _ => exact False.elim q
  | str i => cases r2 with
    | str j => exact .inr ⟨i, j, rfl, rfl, k _ _ ⟨g, w, _, .rfl, R, .bl _, q⟩⟩
    | _ => exact False.elim q
  | _ => exact False.elim q
theorem od_ge : OpD X (compareOp .GtE) geD := by
  refine ⟨_, OpR_or op_ge op_ge_str, fun c g w H x y v u Q Qv R r1 r2 q k => ?_⟩
  cases r1 with
  | int i => cases r2 with
    | int j => exact .inl ⟨i, j, rfl, rfl, k _ _ ⟨g, w, _, .rfl, R, .bl _, q⟩⟩
    | _ => exact False.elim q
  | str i => cases r2 with
    | str j => exact .inr ⟨i, j, rfl, rfl, k _ _ ⟨g, w, _, .rfl, R, .bl _, q⟩⟩
    | _ => exact False.elim q
  | _ => exact False.elim q
end
mutual
def toPy : D → Option PyData
  | .non => some .none
  | .bl b => some (.bool b)
  | .int i => some (.int i)
  | .str x => some (.str x)
  | .lst xs => (toPyL xs).map .list
  | .tup xs => (toPyL xs).map .tuple
  | .dic kvs => (toPyK kvs).map .dict
  | .ty _ | .obj _ _ | .ref _ | .pen | .exc _ _ => none
def toPyL : List D → Option (List PyData)
  | [] => some []
  | x :: xs => (toPy x).bind fun d => (toPyL xs).map (d :: ·)
def toPyK : List (Key × D) → Option (List (PyData × PyData))
  | [] => some []
  | (k, x) :: xs => (toPy x).bind fun d => (toPyK xs).map (((match k with | .inl i => .int i | .inr s => .str s), d) :: ·)
end
mutual
theorem Rep.dp {K : PySem.W.Frag} {c : Ck} {g : Gh} {w : W} {H : Hp} (R : Rel K c g w H) : ∀ {v : V} {d : D} {p : PyData}, Rep K g v d → toPy d = some p → PyData.hasDict p = false → Dp K H v p
  | _, _, _, .non, e, _ => by simp only [toPy] at e; cases e; exact .non
  | _, _, _, .bl b, e, _ => by simp only [toPy] at e; cases e; exact .bl b
  | _, _, _, .int b, e, _ => by simp only [toPy] at e; cases e; exact .int b
  | _, _, _, .str b, e, _ => by simp only [toPy] at e; cases e; exact .str b
  | _, _, _, .lst s r, e, h => by
    simp only [toPy, Option.map_eq_some_iff] at e
    obtain ⟨ps, e1, rfl⟩ := e
    exact .lst (R.sqL s) (RepL.dp R r e1 (by simpa [PyData.hasDict] using h))
  | _, _, _, .tup s r, e, h => by
    simp only [toPy, Option.map_eq_some_iff] at e
    obtain ⟨ps, e1, rfl⟩ := e
    exact .tup (R.sqT s) (RepL.dp R r e1 (by simpa [PyData.hasDict] using h))
  | _, _, _, .dic s r, e, h => by
    simp only [toPy, Option.map_eq_some_iff] at e
    obtain ⟨ps, e1, rfl⟩ := e
    simp [PyData.hasDict] at h
  | _, _, _, .ty n, e, _ => by simp [toPy] at e
  | _, _, _, .obj _ _ _, e, _ => by simp [toPy] at e
  | _, _, _, .ref _, e, _ => by simp [toPy] at e
  | _, _, _, .pen _, e, _ => by simp [toPy] at e
  | _, _, _, .exc _ _ _ _, e, _ => by simp [toPy] at e
theorem RepL.dp {K : PySem.W.Frag} {c : Ck} {g : Gh} {w : W} {H : Hp} (R : Rel K c g w H) : ∀ {v : List V} {d : List D} {p : List PyData}, RepL K g v d → toPyL d = some p → PyData.hasDictAll p = false → DpAll K H v p
  | _, _, _, .nil, e, _ => by simp only [toPyL] at e; cases e; exact .nil
  | _, _, _, .cons a r, e, h => by
    simp only [toPyL, Option.bind_eq_some_iff, Option.map_eq_some_iff] at e
    obtain ⟨d, e1, ds, e2, rfl⟩ := e
    simp only [PyData.hasDictAll, Bool.or_eq_false_iff] at h
    exact .cons (Rep.dp R a e1 h.1) (RepL.dp R r e2 h.2)
end
def eqR (neg : Bool) : DR2 := fun x y w Q => match x, y with
  | .str a, .str b => Q (.bl (neg ^^ decide (a = b))) w
  | .int a, .int b => Q (.bl (neg ^^ decide (a = b))) w
  | .bl a, .bl b => Q (.bl (neg ^^ decide (a = b))) w
  | x, y => ∃ d e, toPy x = some d ∧ toPy y = some e ∧ SeqAt.shaped d = true ∧ SeqAt.shaped e = true ∧ Q (.bl (neg ^^ PyData.eqv d e)) w
theorem shaped_noDict {d : PyData} (h : SeqAt.shaped d = true) : PyData.hasDict d = false := by
  unfold SeqAt.shaped at h
  rw [Bool.and_eq_true] at h
  exact PyData.hasDict_of_canLay d h.1
section
variable {X : Cx}
theorem eqRel {g : Gh} {c : Ck} {w : W} {H : Hp} {x y : D} {v u : V} {Q : DK} {Qv : VK} {neg : Bool} (R : Rel X.K c g w H) (r1 : Rep X.K g v x) (r2 : Rep X.K g u y) (q : eqR neg x y w Q) (k : ∀ v H', PQ X.K c g Q v H' → Qv v H') :
    (scal v u = true ∧ Qv (.bl (neg ^^ decide (v = u))) H) ∨ (∃ d e, Dp X.K H v d ∧ Dp X.K H u e ∧ SeqAt.shaped d = true ∧ SeqAt.shaped e = true ∧ Qv (.bl (neg ^^ PyData.eqv d e)) H) := by
  have fin : ∀ b, Q (.bl b) w → Qv (.bl b) H := fun b z => k _ _ ⟨g, w, _, .rfl, R, .bl b, z⟩
  have gen : (∃ d e, toPy x = some d ∧ toPy y = some e ∧ SeqAt.shaped d = true ∧ SeqAt.shaped e = true ∧ Q (.bl (neg ^^ PyData.eqv d e)) w) →
      ∃ d e, Dp X.K H v d ∧ Dp X.K H u e ∧ SeqAt.shaped d = true ∧ SeqAt.shaped e = true ∧ Qv (.bl (neg ^^ PyData.eqv d e)) H := fun ⟨d, e, h1, h2, h3, h4, h5⟩ =>
    ⟨d, e, r1.dp R h1 (shaped_noDict h3), r2.dp R h2 (shaped_noDict h4), h3, h4, fin _ h5⟩
  unfold eqR at q
  split at q
  · cases r1; cases r2
    refine .inl ⟨rfl, fin _ ?_⟩
    simpa using q
  · cases r1; cases r2
    refine .inl ⟨rfl, fin _ ?_⟩
    simpa using q
  · cases r1; cases r2
    refine .inl ⟨rfl, fin _ ?_⟩
    simpa using q
  · exact .inr (gen q)
theorem od_eq (hu : X.A.units + 64 < cLine) : OpD X (compareOp .Eq) (eqR false) := by
  refine ⟨_, OpR_or op_eq (op_eqD hu), fun c g w H x y v u Q Qv R r1 r2 q k => ?_⟩
  have z := eqRel R r1 r2 q k
  simp only [Bool.false_bne] at z
  exact z
theorem od_ne (hu : X.A.units + 64 < cLine) : OpD X (compareOp .NotEq) (eqR true) := by
  refine ⟨_, OpR_or op_ne (op_neD hu), fun c g w H x y v u Q Qv R r1 r2 q k => ?_⟩
  have z := eqRel R r1 r2 q k
  simp only [Bool.true_bne] at z
  exact z
theorem od_is : OpD X (compareOp .Is) fun x y w Q => match y with
    | .non => Q (.bl (match x with | .non => true | _ => false)) w
    | _ => False := ⟨_, op_isN, fun c g w H x y v u Q Qv R r1 r2 q k => by
  cases r2 with
  | non => exact ⟨rfl, by cases r1 <;> exact k _ _ ⟨g, w, _, .rfl, R, .bl _, q⟩⟩
  | _ => exact False.elim q⟩
theorem od_isnot : OpD X (compareOp .IsNot) fun x y w Q => match y with
    | .non => Q (.bl (match x with | .non => false | _ => true)) w
    | _ => False := ⟨_, op_notN, fun c g w H x y v u Q Qv R r1 r2 q k => by
  cases r2 with
  | non => exact ⟨rfl, by cases r1 <;> exact k _ _ ⟨g, w, _, .rfl, R, .bl _, q⟩⟩
  | _ => exact False.elim q⟩
end
end DL
namespace DL
open PySem PySem.Spec PyProof.Rows L2
def kD : Key → D
  | .inl i => .int i
  | .inr x => .str x
def keyOf : D → Option Key
  | .int i => some (.inl i)
  | .str x => some (.inr x)
  | _ => none
theorem keyOf_kD (k : Key) : keyOf (kD k) = some k := by cases k <;> rfl
def valD {κ : Type} [DecidableEq κ] (kvs : List (κ × D)) (k : κ) : Option D := (kvs.find? fun kv => decide (kv.1 = k)).map (·.2)
section
variable {K : PySem.W.Frag} {g : Gh}
theorem Rep.key {v : V} {d : D} {k : Key} (r : Rep K g v d) (h : keyOf d = some k) : v = kV k ∧ d = kD k := by
  cases r <;> simp only [keyOf, reduceCtorEq, Option.some.injEq] at h
  · subst h; exact ⟨rfl, rfl⟩
  · subst h; exact ⟨rfl, rfl⟩
theorem RepK.val : ∀ {xs : List (Key × V)} {ds : List (Key × D)} (k : Key), RepK K g xs ds → (valV xs k = none ∧ valD ds k = none) ∨ ∃ v d, valV xs k = some v ∧ valD ds k = some d ∧ Rep K g v d
  | _, _, k, .nil => .inl ⟨rfl, rfl⟩
  | _, _, k, @RepK.cons _ _ k' v vs d ds a r => by
    by_cases e : k' = k
    · refine .inr ⟨v, d, ?_, ?_, a⟩
      · unfold valV; rw [List.find?_cons_of_pos (by simpa using e)]; rfl
      · unfold valD; rw [List.find?_cons_of_pos (by simpa using e)]; rfl
    · have h1 : valV ((k', v) :: vs) k = valV vs k := by unfold valV; rw [List.find?_cons_of_neg (by simpa using e)]
      have h2 : valD ((k', d) :: ds) k = valD ds k := by unfold valD; rw [List.find?_cons_of_neg (by simpa using e)]
      rw [h1, h2]
      exact RepK.val k r
theorem RepK.keys : ∀ {xs : List (Key × V)} {ds : List (Key × D)}, RepK K g xs ds → xs.map (·.1) = ds.map (·.1)
  | _, _, .nil => rfl
  | _, _, .cons _ r => by rw [List.map_cons, List.map_cons, RepK.keys r]
theorem repKeys : ∀ (xs : List Key), RepL K g (xs.map kV) (xs.map kD)
  | [] => .nil
  | .inl i :: xs => .cons (.int i) (repKeys xs)
  | .inr i :: xs => .cons (.str i) (repKeys xs)
theorem RepL.atI {v : List V} {d : List D} {i : Int} {x : D} (r : RepL K g v d) (h : L2.atI d i = some x) : ∃ u, L2.atI v i = some u ∧ Rep K g u x := by
  unfold L2.atI at h ⊢
  rw [r.length]
  cases e : ixN d.length i with
  | none => rw [e] at h; cases h
  | some j =>
    rw [e] at h
    exact r.get h
end
theorem Rel.rdic {K : PySem.W.Frag} {c : Ck} {g : Gh} {w : W} {H : Hp} (R : Rel K c g w H) {a : Addr} {xs : List (Key × V)} (h : g.G a = some (.dK xs)) : Rd H a (.dK xs) := R.rd h
def subD : DR2 := fun x y w Q => match x, y with
  | .lst xs, .int i => ∃ d, atI xs i = some d ∧ Q d w
  | .tup xs, .int i => ∃ d, atI xs i = some d ∧ Q d w
  | .str z, .int i => z.length ≤ sizeLine ∧ ∃ c, atI z.cps.toList i = some c ∧ Q (.str ⟨#[c]⟩) w
  | .dic kvs, k => ∃ q d, keyOf k = some q ∧ valD kvs q = some d ∧ Q d w
  | .ref p, k => (∃ xs i d, w.m p = some (.lst xs) ∧ k = .int i ∧ atI xs i = some d ∧ Q d w) ∨ ∃ kvs q d, w.m p = some (.dic kvs) ∧ keyOf k = some q ∧ valD kvs q = some d ∧ Q d w
  | _, _ => False
def ImpD (K : PySem.W.Frag) (r0 : R2) (r : DR2) : Prop := ∀ c g w H x y v u Q Qv, Rel K c g w H → Rep K g v x → Rep K g u y → r x y w Q → (∀ v H', PQ K c g Q v H' → Qv v H') → r0 v u H Qv
def rIxD : R2 := fun x y H Q => ∃ a v, x = .ref a ∧ DGet H a y (some v) ∧ Q v H
theorem ix_dict {X : Cx} (hu : X.A.units + 1 < cLine) : IxR X rIxD := by
  intro value slice pins s σ H x y v u Q I rx ry h hs
  obtain ⟨a, z, rfl, g, q⟩ := h
  cases rx
  exact tail_any (dict_typeIs I g) PySem.F.slot_dict_getitem.lookup (d_getItem hu I g ry fun w' s' I' rw' => ⟨z, H, I', rw', q⟩) hs
theorem sub_imp {K : PySem.W.Frag} : ImpD K (fun x y H Q => rIx K x y H Q ∨ rIxD x y H Q) subD := by
  intro c g w H x y v u Q Qv R r1 r2 q k
  have fin : ∀ {v : V} {d : D}, Rep K g v d → Q d w → Qv v H := fun r z => k _ _ ⟨g, w, _, .rfl, R, r, z⟩
  cases r1 with
  | lst s1 r1 => cases r2 with
    | int i =>
      obtain ⟨d, e, q2⟩ := (show ∃ d, _ ∧ _ from q)
      obtain ⟨u, e1, ru⟩ := r1.atI e
      exact .inl (.inl ⟨_, _, _, _, rfl, rfl, R.sqL s1, e1, fin ru q2⟩)
    | _ => exact False.elim q
  | tup s1 r1 => cases r2 with
    | int i =>
      obtain ⟨d, e, q2⟩ := (show ∃ d, _ ∧ _ from q)
      obtain ⟨u, e1, ru⟩ := r1.atI e
      exact .inl (.inr (.inl ⟨_, _, _, _, rfl, rfl, R.sqT s1, e1, fin ru q2⟩))
    | _ => exact False.elim q
  | str z => cases r2 with
    | int i =>
      obtain ⟨hz, ch, e, q2⟩ := (show _ ∧ ∃ c, _ ∧ _ from q)
      exact .inl (.inr (.inr ⟨_, _, _, rfl, rfl, hz, e, fin (.str _) q2⟩))
    | _ => exact False.elim q
  | dic s1 r1 =>
    obtain ⟨ky, d, e1, e2, q2⟩ := (show ∃ q d, _ ∧ _ ∧ _ from q)
    obtain ⟨rfl, rfl⟩ := r2.key e1
    rcases r1.val ky with ⟨_, z⟩ | ⟨v', d', z1, z2, r'⟩
    · rw [e2] at z; cases z
    · rw [e2] at z2; cases z2
      exact .inr ⟨_, _, rfl, .inl ⟨_, ky, R.rdic s1, rfl, z1.symm⟩, fin r' q2⟩
  | ref p =>
    rcases (show (∃ xs i d, _) ∨ ∃ kvs q d, _ from q) with ⟨xs, i, d, e1, rfl, e2, q2⟩ | ⟨kvs, ky, d, e0, e1, e2, q2⟩
    · cases r2
      obtain ⟨vs, e3, r1⟩ := R.mlst e1
      obtain ⟨u, e4, ru⟩ := r1.atI e2
      exact .inl (.inl ⟨_, _, _, _, rfl, rfl, SqL.of e3, e4, fin ru q2⟩)
    · obtain ⟨rfl, rfl⟩ := r2.key e1
      obtain ⟨vs, e3, r1⟩ := R.mdic e0
      rcases r1.val ky with ⟨_, z⟩ | ⟨v', d', z1, z2, r'⟩
      · rw [e2] at z; cases z
      · rw [e2] at z2; cases z2
        exact .inr ⟨_, _, rfl, .inl ⟨_, ky, .inl e3, rfl, z1.symm⟩, fin r' q2⟩
  | _ => exact False.elim q
section
variable {X : Cx} {Wv : WX} {a b : Expr} {ta tb : DTE} {pos : Pos}
theorem de_sub (hu : X.A.units + 1 < cLine) (ha : DE X Wv a ta) (hb : DE X Wv b tb) (hs : PlainIx b := by exact fun _ _ => rfl) : DE X Wv (.Subscript a b pos) (dOp subD ta tb) :=
  ⟨PE_imp (pe_ix (ix_seq.or (ix_dict hu)) ha.pe hb.pe hs) fun σ H Qv h => dop_lift sub_imp h⟩
end
def scalD : D → Bool
  | .non | .bl _ | .int _ | .str _ => true
  | _ => false
def eqS : D → D → Bool
  | .non, .non => true
  | .bl a, .bl b => a == b
  | .bl a, .int b => (if a then 1 else 0) == b
  | .int a, .bl b => a == (if b then 1 else 0)
  | .int a, .int b => a == b
  | .str a, .str b => a == b
  | _, _ => false
def inS (a b : Str) : Bool := !(Builtin.Str.occurrences b a 0 b.length 1).isEmpty
theorem inS_one (c : Nat) (z : Str) : inS ⟨#[c]⟩ z = decide (c ∈ z.cps.toList) := (PySem.StrLaws.found_one z c)
def memS (x : D) (xs : List D) : Bool := xs.any fun y => eqS y x
def inR (neg : Bool) : DR2 := fun x y w Q => match y with
  | .str b => (match x with | .str a => Q (.bl (neg ^^ inS a b)) w | _ => False)
  | .lst xs => (scalD x && xs.all scalD) = true ∧ Q (.bl (neg ^^ memS x xs)) w
  | .tup xs => (scalD x && xs.all scalD) = true ∧ Q (.bl (neg ^^ memS x xs)) w
  | .dic kvs => ∃ k, keyOf x = some k ∧ Q (.bl (neg ^^ (valD kvs k).isSome)) w
  | .ref p => (∃ xs, w.m p = some (.lst xs) ∧ (scalD x && xs.all scalD) = true ∧ Q (.bl (neg ^^ memS x xs)) w) ∨ ∃ kvs k, w.m p = some (.dic kvs) ∧ keyOf x = some k ∧ Q (.bl (neg ^^ (valD kvs k).isSome)) w
  | _ => False
section
variable {K : PySem.W.Frag} {g : Gh}
theorem Rep.flat {v : V} {d : D} (r : Rep K g v d) (h : scalD d = true) : flatV v = true := by
  cases r <;> first | rfl | (simp [scalD] at h)
theorem RepL.flat : ∀ {v : List V} {d : List D}, RepL K g v d → d.all scalD = true → v.all flatV = true
  | _, _, .nil, _ => rfl
  | _, _, .cons a r, h => by
    rw [List.all_cons, Bool.and_eq_true] at h
    rw [List.all_cons, a.flat h.1, RepL.flat r h.2]
    rfl
theorem Rep.eqS {v u : V} {d e : D} (r : Rep K g v d) (q : Rep K g u e) (h : scalD d = true) (h' : scalD e = true) : eqV v u = eqS d e := by
  cases r <;> first | (simp [scalD] at h; done) | (cases q <;> first | rfl | (simp [scalD] at h'; done))
theorem RepL.memS {x : V} {d : D} (q : Rep K g x d) (h' : scalD d = true) : ∀ {v : List V} {ds : List D}, RepL K g v ds → ds.all scalD = true → inV x v = memS d ds
  | _, _, .nil, _ => rfl
  | _, _, .cons a r, h => by
    rw [List.all_cons, Bool.and_eq_true] at h
    show (eqV _ x || _) = (eqS _ d || _)
    rw [a.eqS q h.1 h']
    exact congrArg _ (RepL.memS q h' r h.2)
end
def rInAny (K : PySem.W.Frag) (neg : Bool) : R2 := fun x y H Q => (∃ i j, x = .str i ∧ y = .str j ∧ Q (.bl (neg ^^ inS i j)) H) ∨ (∃ p xs, y = .ref p ∧ (SqL K H p xs ∨ SqT K H p xs) ∧ flatV x = true ∧ xs.all flatV = true ∧ Q (.bl (neg ^^ inV x xs)) H) ∨
  ∃ a o, y = .ref a ∧ DGet H a x o ∧ Q (.bl (neg ^^ o.isSome)) H
theorem op_inAny {X : Cx} (hu : X.A.units + 1 < cLine) : OpR X (compareOp .In) (rInAny X.K false) := by
  intro pins s σ H x y v u Q I rx ry h
  simp only [rInAny, Bool.false_bne] at h
  rcases h with ⟨i, j, rfl, rfl, q⟩ | ⟨p, xs, rfl, h1, h2, h3, q⟩ | ⟨a, o, rfl, g, q⟩
  · exact op_in_str pins s σ H _ _ v u Q I rx ry ⟨i, j, rfl, rfl, q⟩
  · exact op_in_seq pins s σ H _ _ v u Q I rx ry ⟨p, xs, rfl, h1, h2, h3, by rw [if_neg Bool.false_ne_true]; exact q⟩
  · cases ry
    exact d_in hu I g rx fun s' I' => ⟨.bl _, H, I', rfl, q⟩
theorem op_notInAny {X : Cx} (hu : X.A.units + 1 < cLine) : OpR X (compareOp .NotIn) (rInAny X.K true) := by
  intro pins s σ H x y v u Q I rx ry h
  simp only [rInAny, Bool.true_bne] at h
  rcases h with ⟨i, j, rfl, rfl, q⟩ | ⟨p, xs, rfl, h1, h2, h3, q⟩ | ⟨a, o, rfl, g, q⟩
  · exact op_notIn_str pins s σ H _ _ v u Q I rx ry ⟨i, j, rfl, rfl, q⟩
  · exact op_notIn_seq pins s σ H _ _ v u Q I rx ry ⟨p, xs, rfl, h1, h2, h3, by rw [if_pos rfl]; exact q⟩
  · cases ry
    exact d_notIn hu I g rx fun s' I' => ⟨.bl _, H, I', rfl, q⟩
theorem in_imp {K : PySem.W.Frag} (neg : Bool) : ImpD K (rInAny K neg) (inR neg) := by
  intro c g w H x y v u Q Qv R r1 r2 q k
  have fin : ∀ b, Q (.bl b) w → Qv (.bl b) H := fun b z => k _ _ ⟨g, w, _, .rfl, R, .bl b, z⟩
  have dics : ∀ {a : Addr} {xs : List (Key × V)} {ds : List (Key × D)}, Rd H a (.dK xs) → RepK K g xs ds → (∃ ky, keyOf x = some ky ∧ Q (.bl (neg ^^ (valD ds ky).isSome)) w) → ∃ a' o, V.ref a = .ref a' ∧ DGet H a' v o ∧ Qv (.bl (neg ^^ o.isSome)) H :=
    fun {a xs ds} hr r ⟨ky, e, z⟩ => by
      obtain ⟨rfl, _⟩ := r1.key e
      refine ⟨a, _, rfl, .inl ⟨xs, ky, hr, rfl, rfl⟩, ?_⟩
      rcases r.val ky with ⟨z1, z2⟩ | ⟨v', d', z1, z2, _⟩
      · rw [z2] at z; rw [z1]; exact fin _ z
      · rw [z2] at z; rw [z1]; exact fin _ z
  cases r2 with
  | str b => cases r1 with
    | str a => exact .inl ⟨_, _, rfl, rfl, fin _ q⟩
    | _ => exact False.elim q
  | lst s r =>
    obtain ⟨h, q⟩ := (show _ ∧ _ from q)
    rw [Bool.and_eq_true] at h
    exact .inr (.inl ⟨_, _, rfl, .inl (R.sqL s), r1.flat h.1, r.flat h.2, by rw [r.memS r1 h.1 h.2]; exact fin _ q⟩)
  | tup s r =>
    obtain ⟨h, q⟩ := (show _ ∧ _ from q)
    rw [Bool.and_eq_true] at h
    exact .inr (.inl ⟨_, _, rfl, .inr (R.sqT s), r1.flat h.1, r.flat h.2, by rw [r.memS r1 h.1 h.2]; exact fin _ q⟩)
  | dic s r => exact .inr (.inr (dics (R.rdic s) r q))
  | ref p =>
    rcases (show (∃ xs, _) ∨ ∃ kvs k, _ from q) with ⟨xs, e, h, q⟩ | ⟨kvs, ky, e, h, q⟩
    · obtain ⟨vs, e1, r⟩ := R.mlst e
      rw [Bool.and_eq_true] at h
      exact .inr (.inl ⟨_, _, rfl, .inl (SqL.of e1), r1.flat h.1, r.flat h.2, by rw [r.memS r1 h.1 h.2]; exact fin _ q⟩)
    · obtain ⟨vs, e1, r⟩ := R.mdic e
      exact .inr (.inr (dics (.inl e1) r ⟨ky, h, q⟩))
  | _ => exact False.elim q
theorem od_in {X : Cx} (hu : X.A.units + 1 < cLine) : OpD X (compareOp .In) (inR false) := ⟨_, op_inAny hu, in_imp false⟩
theorem od_notin {X : Cx} (hu : X.A.units + 1 < cLine) : OpD X (compareOp .NotIn) (inR true) := ⟨_, op_notInAny hu, in_imp true⟩
abbrev DRC := List D → W → DK → Prop
def CallD (X : Cx) (f : Value) (r : DRC) : Prop := ∃ r0, CallR X f r0 ∧ ∀ c g w H vs ds Q Qv, Rel X.K c g w H → RepL X.K g vs ds → r ds w Q → (∀ v H', PQ X.K c g Q v H' → Qv v H') → r0 vs H Qv
def dCB (r : DRC) (t : DTA) : DTE := fun env w Q => t env w fun xs w1 => r xs w1 Q
section
variable {X : Cx} {Wv : WX} {x : Str} {p pos : Pos} {e : Expr} {es : List Expr} {t : DTA} {id T : String} {r : DRC}
theorem de_callB (hc : CallD X (.builtin id) r) (hm : X.mg x = none) (ha : DA X Wv (e :: es) t) (hg : Gl X x := by rfl) (hv : bootBuiltins x = some (.builtin id) := by decide +kernel) (hn : x ≠ "__name__" := by decide) (hdb : (x == ("__debug__" : Str)) = false := by decide)
    (he : starEach (e :: es) X.env = (false, eval e X.env) :: starEach es X.env := by rfl) (hpl : (backTo pos (starEach es X.env)).any (·.1) = false := by rfl) : DE X Wv (.Call (.Name x p) (e :: es) [] pos) (dCB r t) := by
  obtain ⟨r0, h0, imp⟩ := hc
  exact ⟨PE_imp (pe_callB h0 hg hm hv ha.pa hn hdb he hpl) fun σ H Qv ⟨c, g, env, w, Q, B, q, k⟩ => bindA B q fun vs H1 g1 w1 xs l1 B1 r1 q1 => imp c g1 w1 H1 vs xs Q Qv B1.R r1 q1 fun v H' z => k v H' (z.up l1)⟩
theorem de_callTy (hc : CallD X (.type T) r) (hm : X.mg x = none) (ha : DA X Wv (e :: es) t) (hg : Gl X x := by rfl) (hv : bootBuiltins x = some (.type T) := by decide +kernel) (hn : x ≠ "__name__" := by decide) (hdb : (x == ("__debug__" : Str)) = false := by decide)
    (he : starEach (e :: es) X.env = (false, eval e X.env) :: starEach es X.env := by rfl) (hpl : (backTo pos (starEach es X.env)).any (·.1) = false := by rfl) : DE X Wv (.Call (.Name x p) (e :: es) [] pos) (dCB r t) := by
  obtain ⟨r0, h0, imp⟩ := hc
  exact ⟨PE_imp (pe_callTy h0 hg hm hv ha.pa hn hdb he hpl) fun σ H Qv ⟨c, g, env, w, Q, B, q, k⟩ => bindA B q fun vs H1 g1 w1 xs l1 B1 r1 q1 => imp c g1 w1 H1 vs xs Q Qv B1.R r1 q1 fun v H' z => k v H' (z.up l1)⟩
theorem de_ty {n : String} (hm : X.mg x = none) (hg : Gl X x := by rfl) (hv : bootBuiltins x = some (.type n) := by decide +kernel) (hn : x ≠ "__name__" := by decide) (hdb : (x == ("__debug__" : Str)) = false := by decide) : DE X Wv (.Name x pos) (dC (.ty n)) :=
  de_c (pe_bltn (v := .ty n) hg hm hv rfl hn hdb) fun _ => .ty n
theorem de_ref {a : Addr} (hm : X.mg x = some (.ref a)) (hg : Gl X x := by rfl) (hdb : (x == ("__debug__" : Str)) = false := by decide) : DE X Wv (.Name x pos) (dC (.ref a)) := de_glob (v := .ref a) hg hm rfl (fun _ => .ref a) hdb
end
theorem RepL.one {K : PySem.W.Frag} {g : Gh} {vs : List V} {d : D} (r : RepL K g vs [d]) : ∃ v, vs = [v] ∧ Rep K g v d := by
  cases r with
  | cons a r => cases r; exact ⟨_, rfl, a⟩
theorem RepL.two {K : PySem.W.Frag} {g : Gh} {vs : List V} {d e : D} (r : RepL K g vs [d, e]) : ∃ v u, vs = [v, u] ∧ Rep K g v d ∧ Rep K g u e := by
  cases r with
  | cons a r => cases r with
    | cons b r => cases r; exact ⟨_, _, rfl, a, b⟩
def lenR : DRC := fun xs w Q => match xs with
  | [.str z] => z.length ≤ sizeLine ∧ Q (.int z.length) w
  | [.lst xs] => Q (.int xs.length) w
  | [.tup xs] => Q (.int xs.length) w
  | [.dic kvs] => Q (.int kvs.length) w
  | [.ref p] => (∃ xs, w.m p = some (.lst xs) ∧ Q (.int xs.length) w) ∨ ∃ kvs, w.m p = some (.dic kvs) ∧ Q (.int kvs.length) w
  | _ => False
def lenDR : List V → Hp → VK → Prop := fun xs H Q => ∃ a kvs, xs = [V.ref a] ∧ Rd H a (.dK kvs) ∧ Q (.int kvs.length) H
theorem call_lenDR {X : Cx} : CallR X (.builtin "len") lenDR := by
  intro pins s σ H xs us Q I r h
  obtain ⟨a, kvs, rfl, ha, q⟩ := h
  obtain ⟨u, rfl, ru⟩ := vals1 r
  cases ru
  exact d_len I ha fun t s' I' => ⟨.int kvs.length, H, I', ⟨t, rfl⟩, q⟩
theorem cd_len {X : Cx} : CallD X (.builtin "len") lenR := by
  refine ⟨_, CallR_or call_len call_lenDR, fun c g w H vs ds Q Qv R r q k => ?_⟩
  have fin : ∀ i, Q (.int i) w → Qv (.int i) H := fun b z => k _ _ ⟨g, w, _, .rfl, R, .int b, z⟩
  unfold lenR at q
  split at q
  · obtain ⟨v, rfl, a⟩ := r.one; cases a; exact .inl ⟨_, _, rfl, ⟨q.1, rfl⟩, fin _ q.2⟩
  · obtain ⟨v, rfl, a⟩ := r.one; cases a with
    | lst s r => exact .inl ⟨_, _, rfl, .inl ⟨_, R.sqL s, rfl⟩, by rw [r.length]; exact fin _ q⟩
  · obtain ⟨v, rfl, a⟩ := r.one; cases a with
    | tup s r => exact .inl ⟨_, _, rfl, .inr ⟨_, R.sqT s, rfl⟩, by rw [r.length]; exact fin _ q⟩
  · obtain ⟨v, rfl, a⟩ := r.one; cases a with
    | dic s r => exact .inr ⟨_, _, rfl, R.rdic s, by rw [r.length]; exact fin _ q⟩
  · obtain ⟨v, rfl, a⟩ := r.one; cases a
    rcases q with ⟨xs, e, q⟩ | ⟨xs, e, q⟩
    · obtain ⟨vs, e1, r⟩ := R.mlst e
      exact .inl ⟨_, _, rfl, .inl ⟨_, SqL.of e1, rfl⟩, by rw [r.length]; exact fin _ q⟩
    · obtain ⟨vs, e1, r⟩ := R.mdic e
      exact .inr ⟨_, _, rfl, .inl e1, by rw [r.length]; exact fin _ q⟩
  · exact q.elim
def blsOf : List D → Option (List Bool)
  | [] => some []
  | .bl b :: r => (blsOf r).map (b :: ·)
  | _ => none
theorem RepL.bls {K : PySem.W.Frag} {g : Gh} : ∀ {vs : List V} {ds : List D} {bs : List Bool}, RepL K g vs ds → blsOf ds = some bs → vs = bs.map V.bl
  | _, _, _, .nil, e => by cases e; rfl
  | _, _, _, .cons a r, e => by
    cases a <;> simp only [blsOf, Option.map_eq_some_iff, reduceCtorEq] at e
    obtain ⟨bs, e1, rfl⟩ := e
    rw [RepL.bls r e1]; rfl
def allR0 : DRC := fun xs w Q => match xs with
  | [.lst xs] => ∃ bs, blsOf xs = some bs ∧ Q (.bl (bs.all id)) w
  | _ => False
def anyR0 : DRC := fun xs w Q => match xs with
  | [.lst xs] => ∃ bs, blsOf xs = some bs ∧ Q (.bl (bs.any id)) w
  | _ => False
theorem cd_all0 {X : Cx} (hc : X.calm = true) : CallD X (.builtin "all") allR0 := by
  refine ⟨_, cr_all hc, fun c g w H vs ds Q Qv R r q k => ?_⟩
  unfold allR0 at q
  split at q
  · obtain ⟨v, rfl, a⟩ := r.one
    obtain ⟨bs, e, q⟩ := q
    cases a with
    | lst s r =>
      have z := r.bls e
      subst z
      exact ⟨_, bs, rfl, R.sqL s, k _ _ ⟨g, w, _, .rfl, R, .bl _, q⟩⟩
  · exact q.elim
theorem cd_any0 {X : Cx} (hc : X.calm = true) : CallD X (.builtin "any") anyR0 := by
  refine ⟨_, cr_any hc, fun c g w H vs ds Q Qv R r q k => ?_⟩
  unfold anyR0 at q
  split at q
  · obtain ⟨v, rfl, a⟩ := r.one
    obtain ⟨bs, e, q⟩ := q
    cases a with
    | lst s r =>
      have z := r.bls e
      subst z
      exact ⟨_, bs, rfl, R.sqL s, k _ _ ⟨g, w, _, .rfl, R, .bl _, q⟩⟩
  · exact q.elim
structure allR (xs : List D) (w : W) (Q : DK) : Prop where
  q : allR0 xs w Q
structure anyR (xs : List D) (w : W) (Q : DK) : Prop where
  q : anyR0 xs w Q
theorem cd_all {X : Cx} (hc : X.calm = true) : CallD X (.builtin "all") allR :=
  let ⟨r0, h, i⟩ := cd_all0 (X := X) hc; ⟨r0, h, fun c g w H vs ds Q Qv R r q k => i c g w H vs ds Q Qv R r q.q k⟩
theorem cd_any {X : Cx} (hc : X.calm = true) : CallD X (.builtin "any") anyR :=
  let ⟨r0, h, i⟩ := cd_any0 (X := X) hc; ⟨r0, h, fun c g w H vs ds Q Qv R r q k => i c g w H vs ds Q Qv R r q.q k⟩
end DL
namespace DL
open PySem PySem.Spec PyProof.Rows L2
abbrev DTO := En → W → (Option Int → W → Prop) → Prop
def liftO (K : PySem.W.Frag) (Wv : WX) (t : DTO) : TO := fun σ H Qv => ∃ c g env w Q, Bx K Wv c g env w σ H ∧ t env w Q ∧ ∀ o H', (∃ g' w', g.le g' ∧ Rel K c g' w' H' ∧ Q o w') → Qv o H'
structure DO (X : Cx) (Wv : WX) (e : Option Expr) (t : DTO) : Prop where
  po : PO X e (liftO X.K Wv t)
def dNo : DTO := fun _ w Q => Q none w
def dPart (t : DTE) : DTO := fun env w Q => t env w fun x w1 => match x with
  | .int i => Q (some i) w1
  | _ => False
theorem PO_imp {X : Cx} {e : Option Expr} {t t' : TO} (h : PO X e t) (i : ∀ σ H Q, t' σ H Q → t σ H Q) : PO X e t' := ⟨fun pins s σ H Q I q => h.run pins s σ H Q I (i σ H Q q)⟩
def cutD (xs : List D) (lo hi : Option Int) : List D := (xs.drop (HT.sIx xs.length 0 lo)).take (HT.sIx xs.length xs.length hi - HT.sIx xs.length 0 lo)
def slR : D → Option Int → Option Int → W → DK → Prop := fun x lo hi w Q => match x with
  | .str z => z.length ≤ sizeLine ∧ Q (.str (cutS z lo hi)) w
  | .lst xs => Q (.lst (cutD xs lo hi)) w
  | .tup xs => Q (.tup (cutD xs lo hi)) w
  | .ref p => ∃ xs, w.m p = some (.lst xs) ∧ Q (.lst (cutD xs lo hi)) w
  | _ => False
def dSl (t : DTE) (tl th : DTO) : DTE := fun env w Q => t env w fun x w1 => tl env w1 fun l w2 => th env w2 fun h w3 => slR x l h w3 Q
section
variable {X : Cx} {Wv : WX} {e : Expr} {te : DTE} {lo hi : Option Expr} {tl th : DTO} {pos p2 : Pos}
theorem do_none : DO X Wv none dNo := ⟨PO_imp po_none fun σ H Qv ⟨c, g, env, w, Q, B, q, k⟩ => k none H ⟨g, w, .rfl, B.R, q⟩⟩
theorem do_some (h : DE X Wv e te) : DO X Wv (some e) (dPart te) := ⟨PO_imp (po_some h.pe) fun σ H Qv ⟨c, g, env, w, Q, B, q, k⟩ => bindE B q fun v H1 g1 w1 x l1 B1 r1 q1 => by
  cases r1 with
  | int i => exact ⟨i, rfl, k _ _ ⟨g1, w1, l1, B1.R, q1⟩⟩
  | _ => exact False.elim q1⟩
theorem RepL.cut {K : PySem.W.Frag} {g : Gh} {xs : List V} {ds : List D} (r : RepL K g xs ds) (lo hi : Option Int) : RepL K g (cutV xs lo hi) (cutD ds lo hi) := by
  unfold cutV cutD
  rw [r.length]
  exact (r.drop _).take _
theorem sIx_whole {xs : List D} {lo hi : Option Int} (h : HT.sIx xs.length 0 lo = 0 ∧ HT.sIx xs.length xs.length hi = xs.length) : cutD xs lo hi = xs := by
  unfold cutD
  rw [h.1, h.2]
  simp
theorem de_slice (he : DE X Wv e te) (hl : DO X Wv lo tl) (hu : DO X Wv hi th) : DE X Wv (.Subscript e (.Slice lo hi none p2) pos) (dSl te tl th) := by
  refine ⟨PE_imp (pe_slice (sl_str.or (sl_list.or sl_tupA)) he.pe hl.po hu.po) fun σ H Qv ⟨c, g, env, w, Q, B, q, k⟩ => ?_⟩
  refine bindE B q fun v H1 g1 w1 x l1 B1 r1 q1 => ⟨c, g1, env, w1, _, B1, q1, fun l H2 ⟨g2, w2, l2, R2, q2⟩ => ⟨c, g2, env, w2, _, B1.step l2 R2, q2, fun h H3 ⟨g3, w3, l3, R3, q3⟩ => ?_⟩⟩
  have r1 := r1.le (l2.trans l3)
  have k3 : ∀ v H', PQ X.K c g3 Q v H' → Qv v H' := fun v H' z => k v H' (((z.up l3).up l2).up l1)
  cases r1 with
  | str z =>
    obtain ⟨hz, q3⟩ := (show _ ∧ _ from q3)
    exact .inl ⟨_, rfl, hz, k3 _ _ ⟨g3, w3, _, .rfl, R3, .str _, q3⟩⟩
  | lst s r => exact .inr (.inl ⟨_, _, rfl, R3.sqL s, newL R3 (r.cut l h) q3 k3⟩)
  | tup s r =>
    refine .inr (.inr ⟨_, _, rfl, R3.sqT s, fun hw => ?_, fun _ => newT R3 (r.cut l h) q3 k3⟩)
    rw [r.length] at hw
    refine k3 _ _ ⟨g3, w3, _, .rfl, R3, .tup s r, ?_⟩
    have q3 : Q (.tup (cutD _ l h)) w3 := q3
    rw [sIx_whole hw] at q3
    exact q3
  | ref p =>
    obtain ⟨xs, e, q3⟩ := (show ∃ xs, _ ∧ _ from q3)
    obtain ⟨vs, e1, r⟩ := R3.mlst e
    exact .inr (.inl ⟨_, _, rfl, SqL.of e1, newL R3 (r.cut l h) q3 k3⟩)
  | _ => exact False.elim q3
end
def listR : DRC := fun xs w Q => match xs with
  | [.lst xs] => Q (.lst xs) w
  | [.tup xs] => Q (.lst xs) w
  | [.dic kvs] => Q (.lst (kvs.map fun kv => kD kv.1)) w
  | [.ref p] => (∃ xs, w.m p = some (.lst xs) ∧ Q (.lst xs) w) ∨ ∃ kvs, w.m p = some (.dic kvs) ∧ Q (.lst (kvs.map fun kv => kD kv.1)) w
  | _ => False
def tupleR : DRC := fun xs w Q => match xs with
  | [.lst xs] => Q (.tup xs) w
  | [.tup xs] => Q (.tup xs) w
  | [.ref p] => ∃ xs, w.m p = some (.lst xs) ∧ Q (.tup xs) w
  | _ => False
theorem keysMap {κ : Type} {xs : List (Key × V)} {ds : List (Key × D)} {K : PySem.W.Frag} {g : Gh} (r : RepK K g xs ds) : RepL K g (xs.map fun kv => kV kv.1) (ds.map fun kv => kD kv.1) := by
  have e1 : (xs.map fun kv => kV kv.1) = (xs.map (·.1)).map kV := by simp
  have e2 : (ds.map fun kv => kD kv.1) = (ds.map (·.1)).map kD := by simp
  rw [e1, e2, r.keys]
  exact repKeys _
section
variable {X : Cx}
theorem cd_list (hc : X.calm = true) : CallD X (.type "list") listR := by
  refine ⟨_, CallR_or call_list_of (call_listD hc), fun c g w H vs ds Q Qv R r q k => ?_⟩
  unfold listR at q
  split at q
  · obtain ⟨v, rfl, a⟩ := r.one; cases a with
    | lst s r => exact .inl ⟨_, _, rfl, .inl (R.sqL s), newL R r q k⟩
  · obtain ⟨v, rfl, a⟩ := r.one; cases a with
    | tup s r => exact .inl ⟨_, _, rfl, .inr (R.sqT s), newL R r q k⟩
  · obtain ⟨v, rfl, a⟩ := r.one; cases a with
    | dic s r => exact .inr ⟨_, _, rfl, R.rdic s, newL R (keysMap (κ := Nat) r) q k⟩
  · obtain ⟨v, rfl, a⟩ := r.one; cases a
    rcases q with ⟨xs, e, q⟩ | ⟨xs, e, q⟩
    · obtain ⟨vs, e1, r⟩ := R.mlst e
      exact .inl ⟨_, _, rfl, .inl (SqL.of e1), newL R r q k⟩
    · obtain ⟨vs, e1, r⟩ := R.mdic e
      exact .inr ⟨_, _, rfl, .inl e1, newL R (keysMap (κ := Nat) r) q k⟩
  · exact q.elim
theorem cd_tuple : CallD X (.type "tuple") tupleR := by
  refine ⟨_, call_tuple_of, fun c g w H vs ds Q Qv R r q k => ?_⟩
  unfold tupleR at q
  split at q
  · obtain ⟨v, rfl, a⟩ := r.one; cases a with
    | lst s r => exact ⟨_, _, rfl, .inl ⟨R.sqL s, newT R r q k⟩⟩
  · obtain ⟨v, rfl, a⟩ := r.one; cases a with
    | tup s r => exact ⟨_, _, rfl, .inr ⟨R.sqT s, k _ _ ⟨g, w, _, .rfl, R, .tup s r, q⟩⟩⟩
  · obtain ⟨v, rfl, a⟩ := r.one; cases a
    obtain ⟨xs, e, q⟩ := q
    obtain ⟨vs, e1, r⟩ := R.mlst e
    exact ⟨_, _, rfl, .inl ⟨SqL.of e1, newT R r q k⟩⟩
  · exact q.elim
end
def tyN : D → Option String
  | .non => some "NoneType"
  | .bl _ => some "bool"
  | .int _ => some "int"
  | .str _ => some "str"
  | .lst _ => some "list"
  | .tup _ => some "tuple"
  | .dic _ => some "dict"
  | _ => none
theorem Rep.tyx {K : PySem.W.Frag} {c : Ck} {g : Gh} {w : W} {H : Hp} (R : Rel K c g w H) {v : V} {d : D} {n : String} (r : Rep K g v d) (h : tyN d = some n) : TyX K H v (.type n) := by
  cases r with
  | non => cases h; exact .base .non
  | bl b => cases h; exact .base (.bl b)
  | int b => cases h; exact .base (.int b)
  | str b => cases h; exact .base (.str b)
  | lst s r =>
    cases h
    rcases R.sqL s with (e | ⟨o, e⟩) | ⟨o, its, n, e, hc, _⟩
    · exact .base (.lst e)
    · exact .base (.frz e)
    · exact .kList e hc
  | tup s r =>
    cases h
    rcases R.sqT s with (e | ⟨o, e⟩) | ⟨o, its, n, e, hc, _⟩
    · exact .base (.tup e)
    · exact .fTuple e
    · exact .kTuple e hc
  | dic s r =>
    cases h
    rcases R.rdic s with e | ⟨o, e⟩
    · exact .base (.dK e)
    · exact .fDict e
  | _ => cases h
def isiR : DRC := fun xs w Q => match xs with
  | [x, .ty n] => ∃ m b, tyN x = some m ∧ kitB m n = some b ∧ Q (.bl b) w
  | _ => False
theorem cd_isi {X : Cx} : CallD X (.builtin "isinstance") isiR := by
  refine ⟨_, call_isi, fun c g w H vs ds Q Qv R r q k => ?_⟩
  unfold isiR at q
  split at q
  · obtain ⟨v, u, rfl, a, b⟩ := r.two
    cases b
    obtain ⟨m, b, e1, e2, q⟩ := q
    exact ⟨_, _, _, _, b, rfl, .ty _, a.tyx R e1, kit_ty e2, k _ _ ⟨g, w, _, .rfl, R, .bl b, q⟩⟩
  · exact q.elim
def kitL (m : String) : List String → Option Bool
  | [] => some false
  | n :: ns => match kitB m n with
    | some true => some true
    | some false => kitL m ns
    | none => none
theorem kitL_any {K : PySem.W.Frag} {m : String} : ∀ {ns : List String} {b : Bool}, kitL m ns = some b → PySem.W.kitAny K (.type m) (ns.map .type) = some b
  | [], b, h => by cases h; rfl
  | n :: ns, b, h => by
    unfold kitL at h
    split at h
    · rename_i e
      cases h
      exact kitAny_cons (kit_ty e) (fun z => by cases z) fun _ => rfl
    · rename_i e
      exact kitAny_cons (kit_ty e) (fun _ => kitL_any h) fun z => by cases z
    · cases h
def tysOf : List D → Option (List String)
  | [] => some []
  | .ty n :: r => (tysOf r).map (n :: ·)
  | _ => none
theorem tysOf_cls {K : PySem.W.Frag} {g : Gh} : ∀ {vs : List V} {ds : List D} {ns : List String}, RepL K g vs ds → tysOf ds = some ns → Paired ClsV vs (ns.map Value.type)
  | _, _, _, .nil, e => by cases e; exact .nil
  | _, _, _, .cons a r, e => by
    cases a <;> simp only [tysOf, Option.map_eq_some_iff, reduceCtorEq] at e
    obtain ⟨ns, e1, rfl⟩ := e
    exact .cons (.ty _) (tysOf_cls r e1)
def dIsiT (t : DTE) (ts : DTA) : DTE := fun env w Q => t env w fun x w1 => ts env w1 fun cs w2 => cs.length ≤ sizeLine ∧ ∃ m ns b, tyN x = some m ∧ tysOf cs = some ns ∧ kitL m ns = some b ∧ Q (.bl b) w2
theorem de_isiT {X : Cx} {Wv : WX} {p pos tp : Pos} {e : Expr} {cs : List Expr} {kk : Nat} {t : DTE} {ts : DTA} (hm : X.mg "isinstance" = none) (he : DE X Wv e t) (hcs : DA X Wv cs ts) (hg : Gl X "isinstance" := by rfl)
    (hs1 : starEach [e, .Tuple cs kk tp] X.env = (false, eval e X.env) :: starEach [.Tuple cs kk tp] X.env := by rfl) (hs2 : starEach [.Tuple cs kk tp] X.env = (false, eval (.Tuple cs kk tp) X.env) :: starEach [] X.env := by rfl) (hpl : (backTo pos (starEach [.Tuple cs kk tp] X.env)).any (·.1) = false := by rfl) :
    DE X Wv (.Call (.Name "isinstance" p) [e, .Tuple cs kk tp] [] pos) (dIsiT t ts) := by
  refine ⟨PE_imp (pe_callB call_isiT hg hm (by decide +kernel) (pa_cons he.pe (pa_cons (pe_tup hcs.pa) pa_nil hs2) hs1) (by decide) (by decide) hs1 hpl) fun σ H Qv ⟨c, g, env, w, Q, B, q, k⟩ => ?_⟩
  refine bindE B q fun v H1 g1 w1 x l1 B1 r1 q1 => bindA B1 q1 fun vs H2 g2 w2 xs l2 B2 r2 q2 => ⟨by rw [r2.length]; exact q2.1, fun p hp => ?_⟩
  obtain ⟨_, m, ns, b, e1, e2, e3, q2⟩ := q2
  have l3 := Gh.add_le (o := .tup vs) (B2.R.noG hp)
  have R3 := B2.R.alloc (o := .tup vs) hp
  exact ⟨v, p, vs, _, _, b, rfl, upd_same, tysOf_cls r2 e2, ((r1.le l2).le l3).tyx R3 e1, kitL_any e3, k _ _ ⟨_, w2, .bl b, (l1.trans l2).trans l3, R3, .bl b, q2⟩⟩
def MtD (X : Cx) (id : String) (r : D → DRC) : Prop := ∃ r0, MtR X id r0 ∧ ∀ c g w H v x vs ds Q Qv, Rel X.K c g w H → Rep X.K g v x → RepL X.K g vs ds → r x ds w Q → (∀ v H', PQ X.K c g Q v H' → Qv v H') → r0 v vs H Qv
section
variable {X : Cx} {Wv : WX} {o e : Expr} {to te : DTE} {id : String} {name : Str} {apos pos : Pos} {r : D → DRC}
def strsOf : List D → Option (List Str)
  | [] => some []
  | .str b :: r => (strsOf r).map (b :: ·)
  | _ => none
theorem RepL.strs {K : PySem.W.Frag} {g : Gh} : ∀ {vs : List V} {ds : List D} {bs : List Str}, RepL K g vs ds → strsOf ds = some bs → vs = bs.map V.str
  | _, _, _, .nil, e => by cases e; rfl
  | _, _, _, .cons a r, e => by
    cases a <;> simp only [strsOf, Option.map_eq_some_iff, reduceCtorEq] at e
    obtain ⟨bs, e1, rfl⟩ := e
    rw [RepL.strs r e1]; rfl
theorem strsOf_map (bs : List Str) : strsOf (bs.map D.str) = some bs := by
  induction bs with
  | nil => rfl
  | cons b r ih => simp [strsOf, ih]
end
end DL
namespace DL
open PySem PySem.Spec PyProof.Rows L2
def noL (_ : PyData) : Bool := true
def Away (h : Heap) : Prop := ∀ o, h.get? sysModules = some o → o.cls ≠ .type "dict"
section
variable {P : Program} {wd : World} {h : Heap}
theorem Away.dict (L : Away h) {b : Addr} {o : Obj} (e : h.get? b = some o) (c : o.cls = .type "dict") : (b == sysModules) = false := by
  refine beq_eq_false_iff_ne.mpr fun z => ?_
  subst z
  exact L o e c
mutual
theorem rk_of (L : Away h) : ∀ {v : Value} {d : PyData} {ad : List Addr}, Reads h v d ad → d.showable = true → d.shown.length ≤ sizeLine → ∃ cs, ReadAtMost h d.depth cs ∧ ReprK P wd cs h d.depth v d.shown
  | _, _, _, .none, _, _ => ⟨[], (fun _ q => nomatch q), by simp only [PyData.shown]; exact .of_is ReprIs.none _ _ _⟩
  | _, _, _, .bool k, _, _ => ⟨[], (fun _ q => nomatch q), by simp only [PyData.shown]; exact .of_is (ReprIs.bool k) _ _ _⟩
  | _, _, _, .int k t, sh, _ => ⟨[], (fun _ q => nomatch q), by simp only [PyData.shown]; exact .of_is (ReprIs.int t (by simpa [PyData.showable] using sh)) _ _ _⟩
  | _, _, _, .str z t, _, sz => ⟨[], (fun _ q => nomatch q), by simp only [PyData.shown]; exact .of_is (ReprIs.str z t (by simpa only [PyData.shown] using sz)) _ _ _⟩
  | _, _, _, .list (a := b) (vs := us) (xs := ps) e1 e2 e3 e4, sh, sz => by
    have sz1 : (listText (PyData.shownAll ps)).length ≤ sizeLine := by simpa only [PyData.shown] using sz
    obtain ⟨cs, below, k⟩ := rkA_of L e4 (by simpa [PyData.showable] using sh) fun t ht => Nat.le_trans (listText_mem_le ht) sz1
    have rd : Reads h (.ref b) (.list ps) _ := .list e1 e2 e3 e4
    have out : b ∉ cs := not_mem_of_deeper rd (by simp only [PyData.depth]; omega) below
    refine ⟨b :: cs, ReadAtMost.cons rd (by simp only [PyData.depth]; omega) below, ?_⟩
    simp only [PyData.depth, PyData.shown]
    obtain ⟨ul⟩ := us
    cases ul with
    | nil =>
      cases (show ReadsAll h [] ps _ from e4)
      simp only [PyData.shownAll, listText_nil]
      exact ReprK.listEmpty e1 e2 e3
    | cons x ul => exact ReprK.list e1 e2 e3 out (by simpa using k.length_eq) fun i y q => k.item i y (by simpa using q)
  | _, _, _, .tuple (a := b) (xs := ps) e1 e2 e3 e4, sh, sz => by
    have sz1 : (tupleText (PyData.shownAll ps)).length ≤ sizeLine := by simpa only [PyData.shown] using sz
    obtain ⟨cs, below, k⟩ := rkA_of L e4 (by simpa [PyData.showable] using sh) fun t ht => Nat.le_trans (tupleText_mem_le ht) sz1
    have rd : Reads h (.ref b) (.tuple ps) _ := .tuple e1 e2 e3 e4
    have out : b ∉ cs := not_mem_of_deeper rd (by simp only [PyData.depth]; omega) below
    refine ⟨b :: cs, ReadAtMost.cons rd (by simp only [PyData.depth]; omega) below, ?_⟩
    simp only [PyData.depth, PyData.shown]
    exact ReprK.tuple e1 e2 e3 out k
  | _, _, _, .dict (a := b) (es := en) (kvs := ps) e1 e2 e3 e4 e5, sh, sz => by
    have sz1 : (dictText (PyData.shownKv ps)).length ≤ sizeLine := by simpa only [PyData.shown] using sz
    obtain ⟨sk, sv⟩ := PyData.showableKv_split ps (by simpa [PyData.showable] using sh)
    obtain ⟨c1, m1, k1⟩ := rkA_of L e4 sk fun t ht => let ⟨p, hp, hl⟩ := PyData.shownKv_key_le ps t ht; Nat.le_trans hl (Nat.le_trans (dictText_mem_le hp) sz1)
    obtain ⟨c2, m2, k2⟩ := rkA_of L e5 sv fun t ht => let ⟨p, hp, hl⟩ := PyData.shownKv_val_le ps t ht; Nat.le_trans hl (Nat.le_trans (dictText_mem_le hp) sz1)
    have rd : Reads h (.ref b) (.dict ps) _ := .dict e1 e2 e3 e4 e5
    have m3 : ReadAtMost h (PyData.depthKv ps) (c1 ++ c2) := (m1.mono (PyData.depthAll_keys_le ps)).append (m2.mono (PyData.depthAll_vals_le ps))
    have out : b ∉ c1 ++ c2 := not_mem_of_deeper rd (by simp only [PyData.depth]; omega) m3
    refine ⟨b :: (c1 ++ c2), ReadAtMost.cons rd (by simp only [PyData.depth]; omega) m3, ?_⟩
    simp only [PyData.depth, PyData.shown, PyData.shownKv_eq]
    refine ReprK.dict e1 e2 e3 (L.dict e1 e2) out (ReprEntriesK.of_two en.toList _ _ ?_ ?_)
    · exact k1.more_le (fun _ q => List.mem_append_left _ q) (PyData.depthAll_keys_le ps)
    · exact k2.more_le (fun _ q => List.mem_append_right _ q) (PyData.depthAll_vals_le ps)
theorem rkA_of (L : Away h) : ∀ {us : List Value} {ps : List PyData} {ad : List Addr}, ReadsAll h us ps ad → PyData.showableAll ps = true → (∀ t ∈ PyData.shownAll ps, t.length ≤ sizeLine) → ∃ cs, ReadAtMost h (PyData.depthAll ps) cs ∧ ReprAllK P wd cs h (PyData.depthAll ps) us (PyData.shownAll ps)
  | _, _, _, .nil, _, _ => ⟨[], (fun _ q => nomatch q), by simp only [PyData.shownAll]; exact .nil⟩
  | _, _, _, .cons (d := p) (ds := ps) r1 r2, sh, sz => by
    obtain ⟨sh1, sh2⟩ : p.showable = true ∧ PyData.showableAll ps = true := by simpa [PyData.showableAll] using sh
    obtain ⟨c1, m1, k1⟩ := rk_of L r1 sh1 (sz _ (by simp only [PyData.shownAll]; exact List.mem_cons_self ..))
    obtain ⟨c2, m2, k2⟩ := rkA_of L r2 sh2 fun t ht => sz t (by simp only [PyData.shownAll]; exact List.mem_cons_of_mem _ ht)
    refine ⟨c1 ++ c2, ?_, ?_⟩
    · simp only [PyData.depthAll]
      exact (m1.mono (Nat.le_max_left _ _)).append (m2.mono (Nat.le_max_right _ _))
    · simp only [PyData.depthAll, PyData.shownAll]
      exact .cons ((k1.more fun _ q => List.mem_append_left _ q).level_le (Nat.le_max_left _ _)) (k2.more_le (fun _ q => List.mem_append_right _ q) (Nat.le_max_right _ _))
end
theorem sb_of (L : Away h) {b : Addr} {d : PyData} {ad : List Addr} (r : Reads h (.ref b) d ad) (sh : d.showable = true) (sz : d.shown.length ≤ sizeLine) : ∃ T idr, ShowsBy P wd h b d T idr := by
  cases r with
  | @list _ o us n ps _ e1 e2 e3 e4 =>
    have sz1 : (listText (PyData.shownAll ps)).length ≤ sizeLine := by simpa only [PyData.shown] using sz
    obtain ⟨cs, below, k⟩ := rkA_of (P := P) (wd := wd) L e4 (by simpa [PyData.showable] using sh) fun t ht => Nat.le_trans (listText_mem_le ht) sz1
    have out : b ∉ cs := not_mem_of_deeper (.list e1 e2 e3 e4) (by simp only [PyData.depth]; omega) below
    refine ⟨"list", "list.__repr__", F.slot_list_repr.toG, F.slot_list_str, F.slot_list_format, fun s k0 => ⟨o, k0 _ _ e1, e2⟩, fun A E s Q hg hu k0 hQ => ?_⟩
    simp only [PyData.depth] at hu
    simp only [PyData.shown] at hQ
    obtain ⟨ul⟩ := us
    cases ul with
    | nil =>
      cases (show ReadsAll h [] ps _ from e4)
      simp only [PyData.shownAll, listText_nil] at hQ
      exact call_list_repr_empty ⟨o, k0 _ _ e1, e2⟩ (k0 _ _ e1) e3 (hQ s.heap _ _ fun _ _ e => e)
    | cons x ul => exact call_list_reprK e1 e2 e3 out (by simpa using k.length_eq) (fun i y q => k.item i y (by simpa using q)) hg (fun c _ => Clear.nil c) hu k0 hQ sz1
  | @tuple _ o us n ps _ e1 e2 e3 e4 =>
    have sz1 : (tupleText (PyData.shownAll ps)).length ≤ sizeLine := by simpa only [PyData.shown] using sz
    obtain ⟨cs, below, k⟩ := rkA_of (P := P) (wd := wd) L e4 (by simpa [PyData.showable] using sh) fun t ht => Nat.le_trans (tupleText_mem_le ht) sz1
    have out : b ∉ cs := not_mem_of_deeper (.tuple e1 e2 e3 e4) (by simp only [PyData.depth]; omega) below
    refine ⟨"tuple", "tuple.__repr__", F.slot_tuple_repr, F.slot_tuple_str, F.slot_tuple_format, fun s k0 => ⟨o, k0 _ _ e1, e2⟩, fun A E s Q hg hu k0 hQ => ?_⟩
    simp only [PyData.depth] at hu
    simp only [PyData.shown] at hQ
    exact call_tuple_reprK e1 e2 e3 out k hg (fun c _ => Clear.nil c) hu k0 hQ sz1
  | @dict _ o en n ps _ _ e1 e2 e3 e4 e5 =>
    have sz1 : (dictText (PyData.shownKv ps)).length ≤ sizeLine := by simpa only [PyData.shown] using sz
    obtain ⟨sk, sv⟩ := PyData.showableKv_split ps (by simpa [PyData.showable] using sh)
    obtain ⟨c1, m1, k1⟩ := rkA_of (P := P) (wd := wd) L e4 sk fun t ht => let ⟨p, hp, hl⟩ := PyData.shownKv_key_le ps t ht; Nat.le_trans hl (Nat.le_trans (dictText_mem_le hp) sz1)
    obtain ⟨c2, m2, k2⟩ := rkA_of (P := P) (wd := wd) L e5 sv fun t ht => let ⟨p, hp, hl⟩ := PyData.shownKv_val_le ps t ht; Nat.le_trans hl (Nat.le_trans (dictText_mem_le hp) sz1)
    have m3 : ReadAtMost h (PyData.depthKv ps) (c1 ++ c2) := (m1.mono (PyData.depthAll_keys_le ps)).append (m2.mono (PyData.depthAll_vals_le ps))
    have out : b ∉ c1 ++ c2 := not_mem_of_deeper (.dict e1 e2 e3 e4 e5) (by simp only [PyData.depth]; omega) m3
    refine ⟨"dict", "dict.__repr__", F.slot_dict_repr, F.slot_dict_str, F.slot_dict_format, fun s k0 => ⟨o, k0 _ _ e1, e2⟩, fun A E s Q hg hu k0 hQ => ?_⟩
    simp only [PyData.depth] at hu
    simp only [PyData.shown, PyData.shownKv_eq] at hQ
    refine call_dict_reprK e1 e2 e3 (L.dict e1 e2) out (ReprEntriesK.of_two en.toList _ _ ?_ ?_) hg (fun c _ => Clear.nil c) hu k0 hQ (by rw [← PyData.shownKv_eq]; exact sz1)
    · exact k1.more_le (fun _ q => List.mem_append_left _ q) (PyData.depthAll_keys_le ps)
    · exact k2.more_le (fun _ q => List.mem_append_right _ q) (PyData.depthAll_vals_le ps)
end
def SysD (h : Heap) : Prop := ∃ o, h.get? sysModules = some o ∧ o.cls = .type "dict"
theorem SysD.other {h : Heap} (S : SysD h) {b : Addr} {o : Obj} (e : h.get? b = some o) {T : String} (c : o.cls = .type T) (n : T ≠ "dict" := by decide) : (b == sysModules) = false := by
  refine beq_eq_false_iff_ne.mpr fun z => ?_
  subst z
  obtain ⟨o', e', c'⟩ := S
  rw [e] at e'
  cases e'
  rw [c] at c'
  exact n (by injection c')
section
variable {X : Cx} {pins : List (Addr × Obj)} {σ : St} {H : Hp} {s : Shared}
theorem pairs_keys {P : Program} {w : World} {h : Heap} {g : Gh} {K : PySem.W.Frag} : ∀ {es : List DictEntry} {vs : List (Key × Value)} {xs : List (Key × V)} {ds : List (Key × D)} {ps : List (PyData × PyData)},
    Pairs (mixKind P w) es vs → KV xs vs → RepK K g xs ds → toPyK ds = some ps → ReadsAll h (es.map (·.key)) (ps.map (·.1)) [] := by
  intro es vs xs ds ps hp
  induction hp generalizing xs ds ps with
  | nil =>
    intro kv rk e
    cases kv; cases rk
    simp only [toPyK] at e; cases e
    exact .nil
  | @cons e0 kv0 es vs hk hv r ih =>
    intro kv rk e
    cases kv with
    | cons kv t => cases rk with
      | cons a rk =>
        simp only [toPyK, Option.bind_eq_some_iff, Option.map_eq_some_iff] at e
        obtain ⟨d, e1, ds, e2, rfl⟩ := e
        have ih := ih t rk e2
        have hk : keyIs kv0.1 e0.key = true := hk
        rw [← kv.1] at hk
        rcases keyIs_shape hk with ⟨i, tk, e3, e4⟩ | ⟨i, tk, e3, e4⟩
        · simp only at e3
          rw [List.map_cons, List.map_cons, e4]
          subst e3
          exact ReadsAll.cons (as := []) (bs := []) (.int _ _) ih
        · simp only at e3
          rw [List.map_cons, List.map_cons, e4]
          subst e3
          exact ReadsAll.cons (as := []) (bs := []) (.str _ _) ih
mutual
theorem Rep.reads (I : Inv X pins σ H s) {c : Ck} {g : Gh} {w : W} (R : Rel X.K c g w H) : ∀ {v : V} {d : D} {p : PyData} {u : Value}, Rep X.K g v d → toPy d = some p → RelV v u → ∃ as, Reads s.heap u p as ∧ (SysD s.heap → ∀ a ∈ as, (a == sysModules) = false)
  | _, _, _, _, .non, e, r => by simp only [toPy] at e; cases e; cases r; exact ⟨[], .none, fun _ _ h => by cases h⟩
  | _, _, _, _, .bl b, e, r => by simp only [toPy] at e; cases e; cases r; exact ⟨[], .bool b, fun _ _ h => by cases h⟩
  | _, _, _, _, .int b, e, r => by simp only [toPy] at e; cases e; obtain ⟨t, rfl⟩ := r; exact ⟨[], .int b t, fun _ _ h => by cases h⟩
  | _, _, _, _, .str b, e, r => by simp only [toPy] at e; cases e; obtain ⟨t, rfl⟩ := r; exact ⟨[], .str b t, fun _ _ h => by cases h⟩
  | _, _, _, _, .lst sl rl, e, r => by
    simp only [toPy, Option.map_eq_some_iff] at e
    obtain ⟨ps, e1, rfl⟩ := e
    cases r
    obtain ⟨its, rv, ⟨o, n, eo, hc, hd, hs⟩, _⟩ := I.list (R.sqL sl)
    obtain ⟨as, h, h2⟩ := RepL.reads I R rl e1 rv
    refine ⟨_, .list eo hc hs (by simpa using h), fun z a ha => ?_⟩
    rcases List.mem_cons.mp ha with e | ha
    · rw [e]; exact z.other eo hc
    · exact h2 z a (by simpa using ha)
  | _, _, _, _, .tup sl rl, e, r => by
    simp only [toPy, Option.map_eq_some_iff] at e
    obtain ⟨ps, e1, rfl⟩ := e
    cases r
    obtain ⟨its, rv, ⟨o, eo, hc, n, hs⟩, _⟩ := I.tuple (R.sqT sl)
    obtain ⟨as, h, h2⟩ := RepL.reads I R rl e1 rv
    exact ⟨_, .tuple eo hc hs (by simpa using h), h2⟩
  | _, _, _, _, .dic sl rl, e, r => by
    simp only [toPy, Option.map_eq_some_iff] at e
    obtain ⟨ps, e1, rfl⟩ := e
    cases r
    obtain ⟨_, hsm, vs, kv, o, es, ep, eo, ex, ed, _, hp, _⟩ := dk_rd I.hok (R.rdic sl)
    obtain ⟨as, h, h2⟩ := RepK.reads I R rl e1 kv hp
    refine ⟨_, .dict eo ex.1 ed (pairs_keys hp kv rl e1) h, fun z a ha => ?_⟩
    rcases List.mem_cons.mp ha with e | ha
    · rw [e]; exact hsm
    · exact h2 z a (by simpa using ha)
  | _, _, _, _, .ty n, e, _ => by simp [toPy] at e
  | _, _, _, _, .obj _ _ _, e, _ => by simp [toPy] at e
  | _, _, _, _, .ref _, e, _ => by simp [toPy] at e
  | _, _, _, _, .pen _, e, _ => by simp [toPy] at e
  | _, _, _, _, .exc _ _ _ _, e, _ => by simp [toPy] at e
theorem RepL.reads (I : Inv X pins σ H s) {c : Ck} {g : Gh} {w : W} (R : Rel X.K c g w H) : ∀ {v : List V} {d : List D} {p : List PyData} {u : List Value}, RepL X.K g v d → toPyL d = some p → Vals v u → ∃ as, ReadsAll s.heap u p as ∧ (SysD s.heap → ∀ a ∈ as, (a == sysModules) = false)
  | _, _, _, _, .nil, e, r => by simp only [toPyL] at e; cases e; cases r; exact ⟨[], .nil, fun _ _ h => by cases h⟩
  | _, _, _, _, .cons a rl, e, r => by
    simp only [toPyL, Option.bind_eq_some_iff, Option.map_eq_some_iff] at e
    obtain ⟨d, e1, ds, e2, rfl⟩ := e
    cases r with
    | cons r1 r2 =>
      obtain ⟨as, h1, h2⟩ := Rep.reads I R a e1 r1
      obtain ⟨bs, h3, h4⟩ := RepL.reads I R rl e2 r2
      refine ⟨_, .cons h1 h3, fun z a ha => ?_⟩
      exact (List.mem_append.mp ha).elim (h2 z a) (h4 z a)
theorem RepK.reads (I : Inv X pins σ H s) {c : Ck} {g : Gh} {w : W} (R : Rel X.K c g w H) : ∀ {v : List (Key × V)} {d : List (Key × D)} {p : List (PyData × PyData)} {vs : List (Key × Value)} {es : List DictEntry}, RepK X.K g v d → toPyK d = some p → KV v vs → Pairs (mixKind X.prog X.w) es vs →
    ∃ as, ReadsAll s.heap (es.map (·.val)) (p.map (·.2)) as ∧ (SysD s.heap → ∀ a ∈ as, (a == sysModules) = false)
  | _, _, _, _, _, .nil, e, r, hp => by simp only [toPyK] at e; cases e; cases r; cases hp; exact ⟨[], .nil, fun _ _ h => by cases h⟩
  | _, _, _, _, _, .cons a rl, e, r, hp => by
    simp only [toPyK, Option.bind_eq_some_iff, Option.map_eq_some_iff] at e
    obtain ⟨d, e1, ds, e2, rfl⟩ := e
    cases r with
    | cons r1 r2 => cases hp with
      | cons k1 k2 hp =>
        obtain ⟨as, h1, h2⟩ := Rep.reads I R a e1 r1.2
        obtain ⟨bs, h3, h4⟩ := RepK.reads I R rl e2 r2 hp
        refine ⟨_, by rw [List.map_cons, List.map_cons, k2]; exact .cons h1 h3, fun z a ha => ?_⟩
        exact (List.mem_append.mp ha).elim (h2 z a) (h4 z a)
end
end
structure ShowOk (d : PyData) : Prop where
  sh : d.showable = true
  dp : d.depth ≤ 60
  sz : d.shown.length ≤ sizeLine
  nl : d.hasDict = true → noL d = true
def reprR : DRC := fun xs w Q => match xs with
  | [x] => ∃ d, toPy x = some d ∧ ShowOk d ∧ Q (.str d.shown) w
  | _ => False
def rRepr (K : PySem.W.Frag) : List V → Hp → VK → Prop := fun xs H Q => ∃ v c g w x d, xs = [v] ∧ Rel K c g w H ∧ Rep K g v x ∧ toPy x = some d ∧ ShowOk d ∧ Q (.str d.shown) H
theorem call_reprR {X : Cx} (hg : X.A.guards = some []) (hu : X.A.units + 64 < cLine) : CallR X (.builtin "repr") (rRepr X.K) := by
  intro pins s σ H xs us Q I r h
  obtain ⟨v, c, g, w, x, d, rfl, R, rx, e, ok, q⟩ := h
  obtain ⟨u, rfl, ru⟩ := vals1 r
  obtain ⟨as, hr, hn⟩ := rx.reads I R e ru
  have big : ∀ a : Addr, u = .ref a → wpAny (model X.prog X.w) X.A (call (.builtin "repr") [u]) (EP X pins σ Q) X.xe s := fun a ea => by
    subst ea
    by_cases hS : SysD s.heap
    · refine repr_of_reads' hr ok.sh (fun hd hm => ?_) hg (by have := ok.dp; omega) (fun _ _ z => z) (fun h' u' tk hk => ⟨.str _, H, I.kept hk, ⟨_, rfl⟩, q⟩) ok.sz
      have z := hn hS _ hm
      simp at z
    · obtain ⟨T, idr, S⟩ := sb_of (P := X.prog) (wd := X.w) (fun o e c => hS ⟨o, e, c⟩) hr ok.sh ok.sz
      refine call_repr_slot (by omega) (S.typeIs s fun _ _ z => z) S.slotRepr (S.call X.A.in1 _ s _ hg (by have := ok.dp; show X.A.units + 1 + d.depth < cLine; omega) (fun _ _ z => z) fun h' u tk hk => ⟨_, _, rfl, ⟨.str _, H, I.kept hk, ⟨_, rfl⟩, q⟩⟩)
  have sz := ok.sz
  have sh := ok.sh
  cases rx with
  | non => simp only [toPy] at e; cases e; cases ru; exact PySem.P.repr_of_none ⟨.str _, H, I.tok _, ⟨_, rfl⟩, by simpa [PyData.shown] using q⟩
  | bl b => simp only [toPy] at e; cases e; cases ru; exact PySem.P.repr_of_bool ⟨.str _, H, I.tok _, ⟨_, rfl⟩, by simpa [PyData.shown] using q⟩
  | int b => simp only [toPy] at e; cases e; obtain ⟨t, rfl⟩ := ru; exact PySem.P.repr_of_int (by simpa [PyData.showable] using sh) ⟨.str _, H, I.tok _, ⟨_, rfl⟩, by simpa [PyData.shown] using q⟩
  | str b => simp only [toPy] at e; cases e; obtain ⟨t, rfl⟩ := ru; exact PySem.P.repr_of_str ⟨.str _, H, I.tok _, ⟨_, rfl⟩, by simpa [PyData.shown] using q⟩ (by simpa [PyData.shown] using sz)
  | lst s r => exact big _ ru
  | tup s r => exact big _ ru
  | dic s r => exact big _ ru
  | _ => simp [toPy] at e
theorem cd_repr {X : Cx} (hg : X.A.guards = some []) (hu : X.A.units + 64 < cLine) : CallD X (.builtin "repr") reprR := by
  refine ⟨_, call_reprR hg hu, fun c g w H vs ds Q Qv R r q k => ?_⟩
  unfold reprR at q
  split at q
  · obtain ⟨v, rfl, a⟩ := r.one
    obtain ⟨d, e, ok, q⟩ := q
    exact ⟨v, c, g, w, _, d, rfl, R, a, e, ok, k _ _ ⟨g, w, _, .rfl, R, .str _, q⟩⟩
  · exact q.elim
end DL
namespace DL
open PySem PySem.Spec PyProof.Rows L2
def putD {κ : Type} [DecidableEq κ] (kvs : List (κ × D)) (k : κ) (v : D) : List (κ × D) :=
  if (kvs.any fun kv => decide (kv.1 = k)) = true then kvs.map (fun kv => if kv.1 = k then (kv.1, v) else kv) else kvs ++ [(k, v)]
def dropD {κ : Type} [DecidableEq κ] (kvs : List (κ × D)) (k : κ) : List (κ × D) := kvs.filter fun kv => decide (kv.1 ≠ k)
def mergeD (kvs more : List (Key × D)) : List (Key × D) := more.foldl (fun acc kv => putD acc kv.1 kv.2) kvs
section
variable {K : PySem.W.Frag} {g : Gh}
theorem RepK.any {k : Key} : ∀ {xs : List (Key × V)} {ds : List (Key × D)}, RepK K g xs ds → (xs.any fun kv => decide (kv.1 = k)) = ds.any fun kv => decide (kv.1 = k)
  | _, _, .nil => rfl
  | _, _, .cons _ r => by rw [List.any_cons, List.any_cons, RepK.any r]
theorem RepK.append : ∀ {v v' : List (Key × V)} {d d' : List (Key × D)}, RepK K g v d → RepK K g v' d' → RepK K g (v ++ v') (d ++ d')
  | _, _, _, _, .nil, s => s
  | _, _, _, _, .cons a r, s => .cons a (RepK.append r s)
theorem RepK.repl {k : Key} {v : V} {d : D} (a : Rep K g v d) : ∀ {xs : List (Key × V)} {ds : List (Key × D)}, RepK K g xs ds → RepK K g (xs.map fun kv => if kv.1 = k then (kv.1, v) else kv) (ds.map fun kv => if kv.1 = k then (kv.1, d) else kv)
  | _, _, .nil => .nil
  | _, _, @RepK.cons _ _ k' v' vs d' ds b r => by
    rw [List.map_cons, List.map_cons]
    by_cases e : k' = k
    · rw [if_pos e, if_pos e]; exact .cons a (RepK.repl a r)
    · rw [if_neg e, if_neg e]; exact .cons b (RepK.repl a r)
theorem RepK.put {k : Key} {v : V} {d : D} (a : Rep K g v d) {xs : List (Key × V)} {ds : List (Key × D)} (r : RepK K g xs ds) : RepK K g (putK xs k v) (putD ds k d) := by
  unfold putK putD
  rw [r.any]
  split
  · exact r.repl a
  · exact r.append (.cons a .nil)
theorem RepK.drop {k : Key} : ∀ {xs : List (Key × V)} {ds : List (Key × D)}, RepK K g xs ds → RepK K g (dropK xs k) (dropD ds k)
  | _, _, .nil => .nil
  | _, _, @RepK.cons _ _ k' v' vs d' ds b r => by
    unfold dropK dropD
    by_cases e : k' = k
    · rw [List.filter_cons_of_neg (by simpa using e), List.filter_cons_of_neg (by simpa using e)]; exact RepK.drop r
    · rw [List.filter_cons_of_pos (by simpa using e), List.filter_cons_of_pos (by simpa using e)]; exact .cons b (RepK.drop r)
theorem RepK.merge : ∀ {more : List (Key × V)} {dm : List (Key × D)} {xs : List (Key × V)} {ds : List (Key × D)}, RepK K g more dm → RepK K g xs ds → RepK K g (mergeK xs more) (mergeD ds dm)
  | _, _, _, _, .nil, q => q
  | _, _, _, _, .cons a r, q => by
    unfold mergeK mergeD
    rw [List.foldl_cons, List.foldl_cons]
    exact RepK.merge r (q.put a)
end
abbrev DSet := D → D → D → W → (W → Prop) → Prop
def setD : DSet := fun o i v w Q => match o with
  | .ref p => (∃ xs k j, w.m p = some (.lst xs) ∧ i = .int k ∧ ixN xs.length k = some j ∧ Q (w.put p (.lst (xs.set j v)))) ∨
      ∃ kvs k, w.m p = some (.dic kvs) ∧ keyOf i = some k ∧ kvs.length < sizeLine ∧ Q (w.put p (.dic (putD kvs k v)))
  | _ => False
def rSetAny : V → V → V → Hp → (Hp → Prop) → Prop := fun o i v H Q => rSetL o i v H Q ∨ ∃ a H', o = .ref a ∧ DPut H a i v H' ∧ Q H'
theorem set_any {X : Cx} (hu : X.A.units + 1 < cLine) : PSet X rSetAny := by
  intro pins s σ H o i v ov iv u Q I ro ri rv h
  rcases h with h | ⟨a, H', rfl, g, q⟩
  · exact set_list pins s σ H o i v ov iv u Q I ro ri rv h
  · cases ro
    exact d_setItem hu I g ri rv fun s' I' => ⟨H', I', q⟩
def gdSub (to ti : DTE) : DTG := fun v env w Q => to env w fun o w1 => ti env w1 fun i w2 => setD o i v w2 fun w3 => Q env w3
theorem dg_sub {X : Cx} {Wv : WX} {o i : Expr} {to ti : DTE} {pos : Pos} (hu : X.A.units + 1 < cLine) (ho : DE X Wv o to) (hi : DE X Wv i ti)
    (ha : ∀ v, assign (.Subscript o i pos) X.env v = (do
      let ov ← holding [v] (eval o X.env)
      let iv ← holding [v, ov] (eval i X.env)
      standAt pos
      holding [v, ov, iv] (setItem ov iv v)
      release [v, ov, iv] []) := by intro _; rfl) : DG X Wv (.Subscript o i pos) [] (gdSub to ti) := by
  refine ⟨PG_imp (pg_sub ho.pe hi.pe (set_any hu) ha) fun v σ H Qv ⟨c, g, env, w, d, Q, B, r, q, k⟩ => ?_⟩
  refine bindE B q fun o H1 g1 w1 x l1 B1 r1 q1 => bindE B1 q1 fun i H2 g2 w2 y l2 B2 r2 q2 => ?_
  have r := r.le (l1.trans l2)
  have r1 := r1.le l2
  have fin : ∀ {p : Addr} {m0 m : MO} {h : HO}, w2.m p = some m0 → RepM X.K g2 m h → Q env (w2.put p m) → Qv σ (upd H2 p h) := fun e rm z =>
    k env _ σ _ g2 (l1.trans l2) (B2.step .rfl (B2.R.write e rm)) (fun _ _ => rfl) z
  cases r1 with
  | ref p =>
    rcases (show (∃ xs k j, _) ∨ ∃ kvs k, _ from q2) with ⟨xs, n, j, e, rfl, h, q3⟩ | ⟨kvs, ky, e, h, hl, q3⟩
    · cases r2
      obtain ⟨vs, e1, rv⟩ := B2.R.mlst e
      exact .inl ⟨p, vs, n, j, rfl, rfl, e1, by rw [rv.length]; exact h, fin e (.lst (rv.set j r)) q3⟩
    · obtain ⟨rfl, rfl⟩ := r2.key h
      obtain ⟨vs, e1, rv⟩ := B2.R.mdic e
      exact .inr ⟨p, _, rfl, DPut.k e1 (by rw [rv.length]; exact hl), fin e (.dic (rv.put r)) q3⟩
  | _ => exact False.elim q2
def dDicM : DTE := fun _ w Q => ∀ p, w.m p = none → Q (.ref p) (w.put p (.dic []))
def dDic0 : DTE := fun _ w Q => Q (.dic []) w
theorem de_dicM {X : Cx} {Wv : WX} {pos : Pos} : DE X Wv (.Dict [] [] pos) dDicM :=
  ⟨PE_imp pe_dnewK fun σ H Qv ⟨c, g, env, w, Q, B, q, k⟩ p hp => k _ _ ⟨g, _, .ref p, .rfl, B.R.allocM hp (.dic .nil), .ref p, q p (B.R.noM hp)⟩⟩
theorem de_dic0 {X : Cx} {Wv : WX} {pos : Pos} : DE X Wv (.Dict [] [] pos) dDic0 :=
  ⟨PE_imp pe_dnewK fun σ H Qv ⟨c, g, env, w, Q, B, q, k⟩ p hp =>
    have l := Gh.add_le (o := .dK []) (B.R.noG hp)
    k _ _ ⟨_, w, .dic [], l, B.R.alloc hp, .dic Gh.add_at .nil, q⟩⟩
def dPairs : List (DTE × DTE) → En → W → (List (D × D) → W → Prop) → Prop
  | [], _, w, Q => Q [] w
  | (tk, tv) :: r, env, w, Q => tk env w fun x w1 => tv env w1 fun y w2 => dPairs r env w2 fun ps w3 => Q ((x, y) :: ps) w3
def keysOf : List (D × D) → Option (List (Key × D))
  | [] => some []
  | (k, d) :: r => (keyOf k).bind fun q => (keysOf r).map ((q, d) :: ·)
def dDisp (fin : List (Key × D) → W → DK → Prop) (trs : List (DTE × DTE)) : DTE := fun env w Q => dPairs trs env w fun ps w1 => ∃ kvs, keysOf ps = some kvs ∧ kvs.length ≤ 15 ∧ fin (mergeD [] kvs) w1 Q
def finD : List (Key × D) → W → DK → Prop := fun kvs w Q => Q (.dic kvs) w
def FinDOk (K : PySem.W.Frag) (fin : List (Key × D) → W → DK → Prop) : Prop := ∀ (c : Ck) (g : Gh) (w : W) (H : Hp) (p : Addr) (xs : List (Key × V)) (ds : List (Key × D)) (Q : DK), Rel K (c.fr p (.dK xs)) g w H → c.F p = none → RepK K g xs ds → fin ds w Q → PQ K c g Q (.ref p) H
theorem finD_ok {K : PySem.W.Frag} : FinDOk K finD := fun c g w H p xs ds Q R hF r q => by
  obtain ⟨l, R'⟩ := R.landF hF
  exact ⟨_, w, _, l, R', .dic Gh.add_at (r.le l), q⟩
structure DPs (X : Cx) (Wv : WX) (pos : Pos) (keys : List (Option Expr)) (values : List Expr) (trs : List (DTE × DTE)) : Prop where
  pp : PPs X pos keys values (trs.map fun t => (liftE X.K Wv t.1, liftE X.K Wv t.2))
theorem dps_nil {X : Cx} {Wv : WX} {pos : Pos} : DPs X Wv pos [] [] [] := ⟨pps_nil⟩
theorem dps_cons {X : Cx} {Wv : WX} {pos : Pos} {k v : Expr} {ks : List (Option Expr)} {vs : List Expr} {tk tv : DTE} {trs : List (DTE × DTE)} (hk : DE X Wv k tk) (hv : DE X Wv v tv) (hr : DPs X Wv pos ks vs trs) : DPs X Wv pos (some k :: ks) (v :: vs) ((tk, tv) :: trs) := ⟨pps_cons hk.pe hv.pe hr.pp⟩
inductive RepPP (K : PySem.W.Frag) (g : Gh) : List (V × V) → List (D × D) → Prop
  | nil : RepPP K g [] []
  | cons {v u : V} {vs : List (V × V)} {d e : D} {ds : List (D × D)} : Rep K g v d → Rep K g u e → RepPP K g vs ds → RepPP K g ((v, u) :: vs) ((d, e) :: ds)
theorem RepPP.le {K : PySem.W.Frag} {g g' : Gh} (l : g.le g') : ∀ {vs : List (V × V)} {ds : List (D × D)}, RepPP K g vs ds → RepPP K g' vs ds
  | _, _, .nil => .nil
  | _, _, .cons a b r => .cons (a.le l) (b.le l) (RepPP.le l r)
theorem RepPP.keys {K : PySem.W.Frag} {g : Gh} : ∀ {vs : List (V × V)} {ds : List (D × D)} {kvs : List (Key × D)}, RepPP K g vs ds → keysOf ds = some kvs → ∃ xs : List (Key × V), vs = xs.map (fun kv => (kV kv.1, kv.2)) ∧ RepK K g xs kvs
  | _, _, _, .nil, e => by cases e; exact ⟨[], rfl, .nil⟩
  | _, _, _, .cons a b r, e => by
    simp only [keysOf, Option.bind_eq_some_iff, Option.map_eq_some_iff] at e
    obtain ⟨q, e1, kvs, e2, rfl⟩ := e
    obtain ⟨xs, rfl, rk⟩ := RepPP.keys r e2
    obtain ⟨rfl, _⟩ := a.key e1
    exact ⟨(q, _) :: xs, rfl, .cons b rk⟩
theorem pairs_lift {K : PySem.W.Frag} {Wv : WX} : ∀ {trs : List (DTE × DTE)} {c : Ck} {g : Gh} {env : En} {w : W} {σ : St} {H : Hp} {Q : List (D × D) → W → Prop} {Qv : List (V × V) → Hp → Prop}, Bx K Wv c g env w σ H → dPairs trs env w Q →
    (∀ vs H1 g1 w1 ds, g.le g1 → Bx K Wv c g1 env w1 σ H1 → RepPP K g1 vs ds → Q ds w1 → Qv vs H1) → tPairs (trs.map fun t => (liftE K Wv t.1, liftE K Wv t.2)) σ H Qv
  | [], c, g, env, w, σ, H, Q, Qv, B, q, k => k [] H g w [] .rfl B .nil q
  | (tk, tv) :: r, c, g, env, w, σ, H, Q, Qv, B, q, k => by
    refine bindE B q fun v H1 g1 w1 x l1 B1 r1 q1 => bindE B1 q1 fun u H2 g2 w2 y l2 B2 r2 q2 => ?_
    exact pairs_lift B2 q2 fun vs H3 g3 w3 ds l3 B3 r3 q3 => k _ H3 g3 w3 _ ((l1.trans l2).trans l3) B3 (.cons (r1.le (l2.trans l3)) (r2.le l3) r3) q3
theorem de_disp {X : Cx} {Wv : WX} {pos : Pos} {keys : List (Option Expr)} {values : List Expr} {trs : List (DTE × DTE)} {fin : List (Key × D) → W → DK → Prop} (hfin : FinDOk X.K fin) (h : DPs X Wv pos keys values trs) (hall : keys.all (·.isSome) = true := by rfl) (hl : keys.length = values.length := by rfl) (h0 : keys ≠ [] := by intro z; cases z)
    (h15 : keys.length ≤ 15 := by decide) : DE X Wv (.Dict keys values pos) (dDisp fin trs) := by
  refine ⟨PE_imp (pe_disp h.pp hall hl h0 h15) fun σ H Qv ⟨c, g, env, w, Q, B, q, k⟩ p hp => ?_⟩
  have hF : c.F p = none := B.R.noF hp
  have B1 : Bx X.K Wv (c.fr p (.dK [])) g env w σ (upd H p (.dK [])) := ⟨B.R.allocF hp, B.E, fun env' σ' H' cls d g' l e px => by
    refine B.X env' σ' H' cls d g' l e ?_
    obtain ⟨g1, w1, C, fs, e1, l1, R1, z⟩ := px
    refine ⟨g1, w1, C, fs, e1, l1, ?_, z⟩
    exact R1.unfr hF⟩
  refine pairs_lift B1 q fun vs H1 g1 w1 ds l1 B2 r1 q1 => ?_
  obtain ⟨kvs, e, hz, q1⟩ := q1
  obtain ⟨xs, rfl, rk⟩ := r1.keys e
  refine ⟨(B2.R.frm p _ upd_same).1, xs, rfl, by rw [rk.length]; exact hz, ?_⟩
  exact k _ _ ((hfin c g1 w1 _ p _ _ Q (B2.R.writeF) hF (rk.merge .nil) q1).up l1)
end DL
namespace DL
open PySem PySem.Spec PyProof.Rows L2
def isML (x : D) (w : W) : Prop := match x with
  | .ref p => ∃ xs, w.m p = some (.lst xs)
  | .lst _ => True
  | _ => False
theorem isML_ty {K : PySem.W.Frag} {c : Ck} {g : Gh} {w : W} {H : Hp} (R : Rel K c g w H) {v : V} {x : D} (r : Rep K g v x) (h : isML x w) : tyV K "list" v H := by
  cases r with
  | ref p =>
    obtain ⟨xs, e⟩ := h
    obtain ⟨vs, e1, _⟩ := R.mlst e
    exact .inl ⟨rfl, _, SqL.of e1⟩
  | lst s _ => exact .inl ⟨rfl, _, R.sqL s⟩
  | _ => exact False.elim h
def dBM0 (r : D → DRC) (to : DTE) : DTE := fun env w Q => to env w fun x w1 => isML x w1 ∧ r x [] w1 Q
def dBM (r : D → DRC) (to : DTE) (t : DTA) : DTE := fun env w Q => to env w fun x w1 => isML x w1 ∧ t env w1 fun xs w2 => r x xs w2 Q
section
variable {X : Cx} {Wv : WX} {o e : Expr} {es : List Expr} {to : DTE} {t : DTA} {id : String} {name : Str} {apos cpos : Pos} {r : D → DRC}
theorem de_bm0 (slot : Slot "list" name id) (hty : typeOf (.builtin id) = pure (.type "method_descriptor")) (rule : MtD X id r) (ho : DE X Wv o to)
    (hbase : attributeBase o name X.env (eval o X.env) = eval o X.env := by rfl) (hline : (apos.endLine == cpos.line) = true := by rfl) : DE X Wv (.Call (.Attribute o name apos) [] [] cpos) (dBM0 r to) := by
  obtain ⟨r0, h0, imp⟩ := rule
  refine ⟨PE_imp (pe_bm0 PySem.F.plainAttrs_list slot hty h0 ho.pe hbase hline) fun σ H Qv ⟨c, g, env, w, Q, B, q, k⟩ => bindE B q fun v H1 g1 w1 x l1 B1 r1 q1 => ?_⟩
  exact ⟨isML_ty B1.R r1 q1.1, imp c g1 w1 H1 _ _ [] [] Q Qv B1.R r1 .nil q1.2 fun v H' z => k v H' (z.up l1)⟩
theorem de_bm (slot : Slot "list" name id) (hty : typeOf (.builtin id) = pure (.type "method_descriptor")) (rule : MtD X id r) (ho : DE X Wv o to) (ha : DA X Wv (e :: es) t)
    (hbase : attributeBase o name X.env (eval o X.env) = eval o X.env := by rfl)
    (hfew : ((backTo cpos (starEach (e :: es) X.env)).all (fun x => !x.1) && (backToKw cpos (keywordEach [] X.env)).all (fun x => x.1.isSome)
      && decide ((e :: es).length + ([] : List Keyword).length + (if ([] : List Keyword).isEmpty then 0 else 1) < 30)) = true := by rfl)
    (hline : (apos.endLine == cpos.line) = true := by rfl) (hs : starEach (e :: es) X.env = (false, eval e X.env) :: starEach es X.env := by rfl) (hplain : (backTo cpos (starEach es X.env)).any (·.1) = false := by rfl) :
    DE X Wv (.Call (.Attribute o name apos) (e :: es) [] cpos) (dBM r to t) := by
  obtain ⟨r0, h0, imp⟩ := rule
  refine ⟨PE_imp (pe_bm PySem.F.plainAttrs_list slot hty h0 ho.pe ha.pa hbase hfew hline hs hplain) fun σ H Qv ⟨c, g, env, w, Q, B, q, k⟩ => bindE B q fun v H1 g1 w1 x l1 B1 r1 q1 => ?_⟩
  exact ⟨isML_ty B1.R r1 q1.1, bindA B1 q1.2 fun vs H2 g2 w2 xs l2 B2 r2 q2 => imp c g2 w2 H2 _ _ vs xs Q Qv B2.R (r1.le l2) r2 q2 fun v H' z => k v H' ((z.up l2).up l1)⟩
def appendR : D → DRC := fun x ds w Q => match x, ds with
  | .ref p, [y] => ∃ xs, w.m p = some (.lst xs) ∧ xs.length < sizeLine ∧ Q .non (w.put p (.lst (xs ++ [y])))
  | _, _ => False
theorem md_append : MtD X "list.append" appendR := by
  refine ⟨_, mt_append, fun c g w H v x vs ds Q Qv R r1 r2 q k => ?_⟩
  unfold appendR at q
  split at q
  · obtain ⟨u, rfl, a⟩ := r2.one; cases r1
    obtain ⟨xs, e, h, q⟩ := q
    obtain ⟨ys, e1, r⟩ := R.mlst e
    exact ⟨_, _, _, rfl, rfl, e1, by rw [r.length]; exact h, k _ _ ⟨g, _, .non, .rfl, R.write e (.lst (r.append (.cons a .nil))), .non, q⟩⟩
  · exact q.elim
def clearR : D → DRC := fun x ds w Q => match x, ds with
  | .ref p, [] => ∃ xs, w.m p = some (.lst xs) ∧ Q .non (w.put p (.lst []))
  | _, _ => False
theorem md_clear : MtD X "list.clear" clearR := by
  refine ⟨_, mt_clear, fun c g w H v x vs ds Q Qv R r1 r2 q k => ?_⟩
  unfold clearR at q
  split at q
  · cases r1; cases r2
    obtain ⟨xs, e, q⟩ := q
    obtain ⟨ys, e1, r⟩ := R.mlst e
    exact ⟨_, _, rfl, rfl, e1, k _ _ ⟨g, _, .non, .rfl, R.write e (.lst .nil), .non, q⟩⟩
  · exact q.elim
end
def intsOf : List D → Option (List Int)
  | [] => some []
  | .int b :: r => (intsOf r).map (b :: ·)
  | _ => none
theorem RepL.ints {K : PySem.W.Frag} {g : Gh} : ∀ {vs : List V} {ds : List D} {bs : List Int}, RepL K g vs ds → intsOf ds = some bs → vs = bs.map V.int
  | _, _, _, .nil, e => by cases e; rfl
  | _, _, _, .cons a r, e => by
    cases a <;> simp only [intsOf, Option.map_eq_some_iff, reduceCtorEq] at e
    obtain ⟨bs, e1, rfl⟩ := e
    rw [RepL.ints r e1]; rfl
theorem intsOf_map (bs : List Int) : intsOf (bs.map D.int) = some bs := by
  induction bs with
  | nil => rfl
  | cons b r ih => simp [intsOf, ih]
def dMkPen (t : DTE) : DTE := fun env w Q => t env w fun x w1 => match x with
  | .ref p => ∃ cs ns, w1.m p = some (.lst [.lst cs, .int 0, .int 0]) ∧ intsOf cs = some ns ∧ ns.length ≤ 60 ∧ Q .pen (w1.del p)
  | _ => False
theorem Rel.mkPen {K : PySem.W.Frag} {c : Ck} {g : Gh} {w : W} {H : Hp} (R : Rel K c g w H) {p : Addr} {m : MO} {xs : List V} (h : w.m p = some m) (hx : H p = some (.lst xs)) (hp : PenR K g.G xs w.n) :
    g.le ⟨g.G, fun a => g.pm a || decide (a = p)⟩ ∧ Rel K c ⟨g.G, fun a => g.pm a || decide (a = p)⟩ (w.del p) H := by
  obtain ⟨hG, hF, hP, o, h0, _⟩ := R.mu p m h
  have le : g.le ⟨g.G, fun a => g.pm a || decide (a = p)⟩ := ⟨fun _ _ e => e, fun a e => by show (g.pm a || _) = true; rw [e]; rfl⟩
  refine ⟨le, R.imm, R.lck, fun a m' e => ?_, fun a q e => ?_, fun a e => ?_, R.ex⟩
  · have ha : a ≠ p := fun z => by
      subst z
      have e' : delM w.m a a = some m' := e
      rw [delM_same] at e'; cases e'
    have e' : delM w.m p a = some m' := e
    rw [delM_ne ha] at e'
    obtain ⟨h1, h2, h3, o', h4, h5⟩ := R.mu a m' e'
    exact ⟨h1, h2, by show (g.pm a || decide (a = p)) = false; rw [h3, decide_eq_false ha]; rfl, o', h4, h5.le le⟩
  · have ha : a ≠ p := fun z => by rw [z, hF] at e; cases e
    obtain ⟨h1, h2, h3⟩ := R.frm a q e
    exact ⟨h1, h2, by show (g.pm a || decide (a = p)) = false; rw [h3, decide_eq_false ha]; rfl⟩
  · have e' : (g.pm a || decide (a = p)) = true := e
    rcases Bool.or_eq_true _ _ ▸ e' with z | z
    · obtain ⟨h1, ys, h2, h3⟩ := R.pen a z
      exact ⟨h1, ys, h2, h3⟩
    · have ha : a = p := of_decide_eq_true z
      subst ha
      exact ⟨hG, xs, hx, hp⟩
theorem de_mkpen {X : Cx} {Wv : WX} {e : Expr} {t : DTE} (h : DE X Wv e t) : DE X Wv e (dMkPen t) :=
  ⟨PE_imp h.pe fun σ H Qv ⟨c, g, env, w, Q, B, q, k⟩ => bindE B q fun v H1 g1 w1 x l1 B1 r1 q1 => by
    cases r1 with
    | ref p =>
      obtain ⟨cs, ns, e, ei, hl, q2⟩ := (show ∃ cs ns, _ from q1)
      obtain ⟨vs, e1, r⟩ := B1.R.mlst e
      cases r with
      | cons a r => cases r with
        | cons b r => cases r with
          | cons d r =>
            cases r; cases b; cases d
            cases a with
            | lst s r =>
              have z := r.ints ei
              subst z
              obtain ⟨l2, R2⟩ := B1.R.mkPen e e1 ⟨_, ns, 0, 0, rfl, s, hl, Nat.zero_le _, Int.le_refl _⟩
              exact k _ _ ⟨_, _, .pen, l1.trans l2, R2, .pen (by show (g1.pm p || decide (p = p)) = true; simp), q2⟩
    | _ => exact False.elim q1⟩
end DL
namespace DL
open PySem PySem.Spec PyProof.Rows L2
def spLaw : DSp := fun ds w Q => ∃ ns : List Int, ds = [.lst (ns.map .int)] ∧ ns.length ≤ 63 ∧ w.n = 0 ∧ ∀ w', Q (.bl true) w'
theorem repInts {K : PySem.W.Frag} {g : Gh} : ∀ ns : List Int, RepL K g (ns.map V.int) (ns.map D.int)
  | [] => .nil
  | n :: ns => .cons (.int n) (repInts ns)
section
variable {P : Program} {w : World} {K : PySem.W.Frag} {mg mb : Str → Option Value} {k : Nat} {fa a : Addr} {x : Str} {s₁ : Shared} {vs : List Value} {ns : List Int}
theorem sp_law {H : Hp} (hO : ∀ b, H b = none ∨ b = a ∧ ∃ o, H b = some (.frz o (.lst (ns.map V.int)))) (hS : SqL K H a (ns.map V.int)) (hl : ns.length ≤ 63) :
    liftSp K spLaw [.ref a] H (fun v _ => v = .bl true) fun _ _ _ => False := by
  refine ⟨⟨fun _ => none, fun _ => none, noE⟩, ⟨H, fun _ => false⟩, ⟨fun _ => none, 0, noE⟩, [.lst (ns.map .int)], fun d _ => d = .bl true, ⟨fun b u e => .inl ⟨rfl, e⟩, fun b o e => ?_, fun b m e => ?_, fun b o e => ?_, fun b e => ?_, rfl⟩,
    .cons (.lst hS (repInts ns)) .nil, ⟨ns, rfl, hl, rfl, fun _ => rfl⟩, fun v H' ⟨g', w', d, _, _, r, q⟩ => ?_, fun _ => rfl, fun cls d H' g' _ ⟨_, _, _, _, _, _, _, z, _⟩ => z⟩
  · cases (show (none : Option Obj) = some o from e)
  · cases (show (none : Option MO) = some m from e)
  · cases (show (none : Option HO) = some o from e)
  · cases (show false = true from e)
  · have q : d = .bl true := q
    subst q
    cases r
    rfl
end
end DL
namespace DL
open PySem PySem.Spec PyProof.Rows L2
structure FnAt (K : PySem.W.Frag) (mg : Str → Option Value) (x : Str) (st : Stmt) (ps : List Str) : Prop where
  ex : ∃ f fd, Fun K x x st f fd ∧ mg x = some (.ref f) ∧ Binds K fd ps []
theorem de_neg {X : Cx} {Wv : WX} {a : Expr} {ta : DTE} {pos : Pos} (ha : DE X Wv a ta) : DE X Wv (.UnaryOp .USub a pos) (fun env w Q => ta env w fun x w1 => match x with | .int i => Q (.int (-i)) w1 | _ => False) :=
  ⟨PE_imp (pe_un un_neg ha.pe) fun σ H Qv ⟨c, g, env, w, Q, B, q, k⟩ => bindE B q fun v H1 g1 w1 x l1 B1 r1 q1 => by
    cases r1 with
    | int i => exact ⟨i, rfl, k _ _ ⟨g1, w1, _, l1, B1.R, .int _, q1⟩⟩
    | _ => exact False.elim q1⟩
def penL (cs : List D) (i r : Int) : MO := .lst [.lst cs, .int i, .int r]
def spDrawU : DSp := fun ds w Q => match ds with
  | [.ref p, .int b] => ∃ cs ns i r, w.m p = some (penL cs i r) ∧ intsOf cs = some ns ∧ ns.length ≤ 60 ∧ 0 ≤ i ∧ i < 2 ^ 31 ∧ 0 ≤ r ∧ 0 < b ∧ b < 2 ^ 30 ∧
      ∀ d i' r', 0 ≤ d → d < b → 0 ≤ i' → i' ≤ i + 1 → 0 ≤ r' → Q (.int d) (w.put p (penL cs i' r'))
  | _ => False
def spNextU : DSp := fun ds w Q => match ds with
  | [.ref p] => ∃ cs ns i r, w.m p = some (penL cs i r) ∧ intsOf cs = some ns ∧ ns.length ≤ 60 ∧ 0 ≤ i ∧ i < 2 ^ 31 ∧ 0 ≤ r ∧
      ∀ v i', 0 ≤ v → 0 ≤ i' → i' ≤ i + 1 → Q (.int v) (w.put p (penL cs i' r))
  | _ => False
def spDraw : DSp := fun ds w Q => match ds with
  | [.pen, .int b] => 0 < b ∧ b < 2 ^ 30 ∧ w.n < 2 ^ 31 ∧ ∀ d : Int, 0 ≤ d → d < b → Q (.int d) (w.tick 1)
  | _ => False
theorem Rel.unpen {K : PySem.W.Frag} {c : Ck} {g : Gh} {w : W} {H : Hp} (R : Rel K c g w H) {p : Addr} (h : g.pm p = true) :
    ∃ cs ns i r, intsOf cs = some ns ∧ ns.length ≤ 60 ∧ 0 ≤ i ∧ i ≤ (w.n : Int) ∧ 0 ≤ r ∧
      Rel K { c with F := fun a => match w.m a with | some _ => H a | none => c.F a } ⟨g.G, fun a => g.pm a && !decide (a = p)⟩ ⟨updM (fun _ => none) p (penL cs i r), w.n, w.e⟩ H := by
  obtain ⟨hG, xs, hx, ca, ns, i, r, rfl, hs, hl, hi, hr⟩ := R.pen p h
  have hM : w.m p = none := by
    cases q : w.m p with
    | none => rfl
    | some m =>
      obtain ⟨_, _, z, _⟩ := R.mu p m q
      rw [h] at z; cases z
  have hF : c.F p = none := by
    cases q : c.F p with
    | none => rfl
    | some o =>
      obtain ⟨_, _, z⟩ := R.frm p o q
      rw [h] at z; cases z
  refine ⟨ns.map .int, ns, i, r, intsOf_map ns, hl, Int.natCast_nonneg i, by omega, hr, R.imm, R.lck, fun a m e => ?_, fun a q e => ?_, fun a e => ?_, R.ex⟩
  · by_cases ha : a = p
    · subst ha
      have e' : updM (fun _ => none) a _ a = some m := e
      rw [updM_same] at e'; cases e'
      refine ⟨hG, ?_, by simp, _, hx, .lst (.cons (.lst hs (repInts ns)) (.cons (.int _) (.cons (.int _) .nil)))⟩
      show (match w.m a with | some _ => H a | none => c.F a) = none
      rw [hM]; exact hF
    · have e' : updM (fun _ => none) p _ a = some m := e
      rw [updM_ne ha] at e'; cases e'
  · have e : (match w.m a with | some _ => H a | none => c.F a) = some q := e
    cases z : w.m a with
    | none =>
      rw [z] at e
      obtain ⟨h1, h2, h3⟩ := R.frm a q e
      exact ⟨h1, h2, by simp [h3]⟩
    | some m =>
      rw [z] at e
      obtain ⟨h1, h2, h3, _⟩ := R.mu a m z
      exact ⟨e, h1, by simp [h3]⟩
  · have e' : (g.pm a && !decide (a = p)) = true := e
    rw [Bool.and_eq_true] at e'
    obtain ⟨h1, ys, h2, h3⟩ := R.pen a e'.1
    exact ⟨h1, ys, h2, h3⟩
theorem Rel.repen {K : PySem.W.Frag} {c : Ck} {g g2 : Gh} {w w2 : W} {H H2 : Hp} (R : Rel K c g w H) {p : Addr} (h : g.pm p = true) {cs : List D} {ns : List Int} {i r : Int} (hi : intsOf cs = some ns) (hl : ns.length ≤ 60) (h0 : 0 ≤ i) (h1 : i ≤ (w.n : Int) + 1) (hr : 0 ≤ r)
    (l : (⟨g.G, fun a => g.pm a && !decide (a = p)⟩ : Gh).le g2) {e' : En → Str → Option (List (Str × D)) → Mem → Nat → Prop} (R2 : Rel K { L := c.L, F := fun a => match w.m a with | some _ => H a | none => c.F a, e := e' } g2 w2 H2) (hm : w2.m p = some (penL cs i r)) (hn : w2.n ≤ w.n + 1) :
    ∃ g3, g.le g3 ∧ g2.le g3 ∧ Rel K c g3 (w.tick 1) H2 := by
  obtain ⟨hG, hF, hP, o, ho, rm⟩ := R2.mu p _ hm
  cases rm with
  | lst rm =>
    have rv := rm
    cases rm with
    | cons ra rm => cases rm with
      | cons rb rm => cases rm with
        | cons rc rm =>
          cases rm; cases rb; cases rc
          cases ra with
          | lst sa ra =>
            have ea := ra.ints hi
            subst ea
            have l3 : g2.le ⟨g2.G, fun a => g2.pm a || decide (a = p)⟩ := ⟨fun _ _ e => e, fun a e => by show (g2.pm a || _) = true; rw [e]; rfl⟩
            have lg : g.le ⟨g2.G, fun a => g2.pm a || decide (a = p)⟩ := ⟨fun a u e => l.G a u e, fun a e => by
              show (g2.pm a || decide (a = p)) = true
              by_cases ha : a = p
              · rw [decide_eq_true ha, Bool.or_true]
              · have := l.pm a (by show (g.pm a && !decide (a = p)) = true; rw [e, decide_eq_false ha]; rfl)
                rw [this]; rfl⟩
            have noM : w.m p = none := by
              cases q : w.m p with
              | none => rfl
              | some m =>
                obtain ⟨_, _, z, _⟩ := R.mu p m q
                rw [h] at z; cases z
            have noF : c.F p = none := by
              cases q : c.F p with
              | none => rfl
              | some o =>
                obtain ⟨_, _, z⟩ := R.frm p o q
                rw [h] at z; cases z
            refine ⟨_, lg, l3, R2.imm, R2.lck, fun a m e => ?_, fun a q e => ?_, fun a e => ?_, R.ex⟩
            · have e : w.m a = some m := e
              obtain ⟨h1, h2, h3, o', h4, h5⟩ := R.mu a m e
              obtain ⟨k1, k2, k3⟩ := R2.frm a o' (by show (match w.m a with | some _ => H a | none => c.F a) = some o'; rw [e]; exact h4)
              have ha : a ≠ p := fun z => by rw [z, noM] at e; cases e
              exact ⟨k2, h2, by show (g2.pm a || decide (a = p)) = false; rw [k3, decide_eq_false ha]; rfl, o', k1, h5.le lg⟩
            · have em : w.m a = none := by
                cases q' : w.m a with
                | none => rfl
                | some m =>
                  obtain ⟨_, z, _⟩ := R.mu a m q'
                  rw [e] at z; cases z
              obtain ⟨k1, k2, k3⟩ := R2.frm a q (by show (match w.m a with | some _ => H a | none => c.F a) = some q; rw [em]; exact e)
              have ha : a ≠ p := fun z => by rw [z, noF] at e; cases e
              exact ⟨k1, k2, by show (g2.pm a || decide (a = p)) = false; rw [k3, decide_eq_false ha]; rfl⟩
            · have e' : (g2.pm a || decide (a = p)) = true := e
              by_cases ha : a = p
              · subst ha
                obtain ⟨j, rfl⟩ : ∃ j : Nat, i = j := ⟨i.toNat, by omega⟩
                exact ⟨hG, _, ho, _, ns, j, r, rfl, sa, hl, by show j ≤ w.n + 1; omega, hr⟩
              · rw [decide_eq_false ha, Bool.or_false] at e'
                obtain ⟨h1, ys, h2, h3⟩ := R2.pen a e'
                exact ⟨h1, ys, h2, h3.le .rfl hn⟩
theorem draw_pack {K : PySem.W.Frag} {vs : List V} {H : Hp} {Q : VK} {E : XK} (h : liftSp K spDraw vs H Q E) : liftSp K spDrawU vs H Q E := by
  obtain ⟨c, g, w, ds, Q0, R, r, h, k1, k2, k3⟩ := h
  unfold spDraw at h
  split at h
  · rename_i b
    obtain ⟨h1, h2, h3, h4⟩ := h
    obtain ⟨v, u, rfl, ra, rb⟩ := r.two
    cases ra with
    | @pen p hp =>
      obtain ⟨cs, ns, i, rr, e1, e2, e3, e4, e5, R'⟩ := R.unpen hp
      refine ⟨_, _, W.mute ⟨updM (fun _ => none) p (penL cs i rr), w.n, w.e⟩, [.ref p, .int b], fun d w' => ∃ d' cs' i' r', d = .int d' ∧ 0 ≤ d' ∧ d' < b ∧ intsOf cs' = some ns ∧ 0 ≤ i' ∧ i' ≤ i + 1 ∧ 0 ≤ r' ∧ w'.m p = some (penL cs' i' r') ∧ w'.n = w.n, R'.mute,
        .cons (.ref p) (.cons (by cases rb; exact .int b) .nil), ⟨cs, ns, i, rr, by show updM (fun _ => none) p (penL cs i rr) p = _; exact updM_same, e1, e2, e3, by omega, e5, h1, h2, fun d i' r' q1 q2 q3 q4 q5 => ⟨d, cs, i', r', rfl, q1, q2, e1, q3, q4, q5, by show updM (updM (fun _ => none) p (penL cs i rr)) p (penL cs i' r') p = _; exact updM_same, rfl⟩⟩, fun v H' ⟨g', w', d, l, R2, rd, d', cs', i', r', z0, z1, z2, z3, z4, z5, z6, z7, z8⟩ => ?_, fun _ => rfl, fun cls d H' g' l' ⟨_, _, _, _, _, _, _, z, _⟩ => z.elim⟩
      · subst z0
        cases rd
        obtain ⟨g3, l1, l2, R3⟩ := R.repen hp z3 e2 z4 (by omega) z6 l R2 z7 (by omega)
        exact k1 _ _ ⟨g3, _, _, l1, R3, .int d', h4 d' z1 z2⟩
  · exact h.elim
end DL
namespace DL
open PySem PySem.Spec PyProof.Rows L2
theorem ifb {b : Bool} {A B : Prop} (h1 : b = true → A) (h2 : b = false → B) : if b = true then A else B := by
  cases b with
  | true => rw [if_pos rfl]; exact h1 rfl
  | false => rw [if_neg Bool.false_ne_true]; exact h2 rfl
theorem ifn {b : Bool} {A B : Prop} (h1 : b = true → B) (h2 : b = false → A) : if (!b) = true then A else B := by
  cases b with
  | true => exact h1 rfl
  | false => exact h2 rfl
theorem ifx {b : Bool} {A B : Prop} (h1 : b = true → B) (h2 : b = false → A) : if (true ^^ b) = true then A else B := by
  cases b with
  | true => exact h1 rfl
  | false => exact h2 rfl
theorem ify {b : Bool} {A B : Prop} (h1 : b = true → A) (h2 : b = false → B) : if (false ^^ b) = true then A else B := by
  cases b with
  | true => exact h1 rfl
  | false => exact h2 rfl
theorem ifd {c A B : Prop} [Decidable c] (h1 : c → A) (h2 : ¬ c → B) : if decide c = true then A else B := by
  by_cases h : c
  · rw [if_pos (decide_eq_true h)]; exact h1 h
  · rw [if_neg (by simpa using h)]; exact h2 h
theorem nif {c A B : Prop} [Decidable c] (h1 : c → B) (h2 : ¬ c → A) : if (!decide c) = true then A else B := by
  by_cases h : c
  · rw [if_neg (by simpa using h)]; exact h1 h
  · rw [if_pos (by simpa using h)]; exact h2 h
theorem sz_nat (n : Nat) (h : n ≤ 16777216 := by decide) : n ≤ sizeLine := by rw [sizeLine_eq]; exact h
theorem atI0 {α : Type} (x : α) (r : List α) : atI (x :: r) 0 = some x := atI_nat (j := 0) rfl
theorem atI_int {α : Type} {xs : List α} {i : Int} (h0 : 0 ≤ i) (h1 : i < xs.length) : ∃ v, atI xs i = some v ∧ xs[i.toNat]? = some v := by
  obtain ⟨j, rfl⟩ : ∃ j : Nat, i = j := ⟨i.toNat, by omega⟩
  have hj : j < xs.length := by omega
  have e : xs[j]? = some xs[j] := by simp [hj]
  exact ⟨xs[j], atI_nat e, by simpa using e⟩
theorem atI_mem {α : Type} {xs : List α} {i : Int} (h0 : 0 ≤ i) (h1 : i < xs.length) : ∃ v, atI xs i = some v ∧ v ∈ xs := by
  obtain ⟨v, e, e2⟩ := atI_int h0 h1
  exact ⟨v, e, List.mem_of_getElem? e2⟩
section
variable {items : List D} {gd : DTG} {tt : DTT} {te : DTE} {vs : List Nat} {env : En} {w : W} {Q : DK} {fin : List D → W → DK → Prop}
theorem lc_map (f : D → D) (hz : items.length ≤ sizeLine) (h : ∀ x, x ∈ items → ∀ R : DK, R (f x) w.mute → gd x (wipeD env vs) w.mute fun env2 w3 => te env2 w3 R) (hf : fin (items.map f) w Q) :
    items.length ≤ sizeLine ∧ ∃ Pv : Nat → List D → W → Prop, Pv 0 [] w ∧
      (∀ i x acc w2, items[i]? = some x → acc.length ≤ i → Pv i acc w2 → gd x (wipeD env vs) w2.mute fun env2 w3 => dYes env2 w3 fun b w4 => if b = true then te env2 w4 fun y w5 => Pv (i + 1) (acc ++ [y]) (w5.as w) else Pv (i + 1) acc (w4.as w)) ∧
      ∀ acc w2, Pv items.length acc w2 → fin acc w2 Q := by
  refine ⟨hz, fun i acc w2 => w2 = w ∧ acc = (items.take i).map f, ⟨rfl, rfl⟩, ?_, ?_⟩
  · rintro i x acc w2 hx _ ⟨rfl, rfl⟩
    refine h x (List.mem_of_getElem? hx) (fun y w5 => w5.as w2 = w2 ∧ (items.take i).map f ++ [y] = (items.take (i + 1)).map f) ⟨rfl, ?_⟩
    rw [List.take_succ, hx]
    simp
  · rintro acc w2 ⟨rfl, rfl⟩
    rw [List.take_length]
    exact hf
theorem lc_filter (p : D → Bool) (f : D → D) (hz : items.length ≤ sizeLine)
    (h : ∀ x, x ∈ items → ∀ (R : DK) (S : W → Prop), (p x = true → R (f x) w.mute) → (p x = false → S w.mute) → gd x (wipeD env vs) w.mute fun env2 w3 => tt env2 w3 fun b w4 => if b = true then te env2 w4 R else S w4) (hf : fin ((items.filter p).map f) w Q) :
    items.length ≤ sizeLine ∧ ∃ Pv : Nat → List D → W → Prop, Pv 0 [] w ∧
      (∀ i x acc w2, items[i]? = some x → acc.length ≤ i → Pv i acc w2 → gd x (wipeD env vs) w2.mute fun env2 w3 => tt env2 w3 fun b w4 => if b = true then te env2 w4 fun y w5 => Pv (i + 1) (acc ++ [y]) (w5.as w) else Pv (i + 1) acc (w4.as w)) ∧
      ∀ acc w2, Pv items.length acc w2 → fin acc w2 Q := by
  refine ⟨hz, fun i acc w2 => w2 = w ∧ acc = ((items.take i).filter p).map f, ⟨rfl, rfl⟩, ?_, ?_⟩
  · rintro i x acc w2 hx _ ⟨rfl, rfl⟩
    refine h x (List.mem_of_getElem? hx) (fun y w5 => w5.as w2 = w2 ∧ ((items.take i).filter p).map f ++ [y] = ((items.take (i + 1)).filter p).map f) (fun w4 => w4.as w2 = w2 ∧ ((items.take i).filter p).map f = ((items.take (i + 1)).filter p).map f) (fun e => ⟨rfl, ?_⟩) fun e => ⟨rfl, ?_⟩
    · rw [List.take_succ, hx]
      simp [e]
    · rw [List.take_succ, hx]
      simp [e]
  · rintro acc w2 ⟨rfl, rfl⟩
    rw [List.take_length]
    exact hf
end
theorem all_map (p : D → Bool) (xs : List D) : blsOf (xs.map fun x => .bl (p x)) = some (xs.map p) := by
  induction xs with
  | nil => rfl
  | cons x r ih => simp [blsOf, ih]
end DL
namespace DL
open PySem PySem.Spec PyProof.Rows L2
theorem FnAt.of {K : PySem.W.Frag} {h : Heap} {mg : Str → Option Value} {x : Str} {st : Stmt} {ps : List Str} {f : Addr} {oc : Value} {od an : Option Addr} {osl : Array (Option Value)} {kV doc pm cdv ct : Value} (X : K.In h) (G : h.Ns mainGlobals mg)
    (hb : ∀ (kV doc pm : Value) (an : Option Addr) (cdv ct : Value) (us : List Value), us.length = ps.length → bindArgs (PySem.W.fnOf x x (defArgs st) (defBody st) (defScope st) .none kV doc pm an cdv ct) ⟨us, []⟩ = pure (ps.zip us))
    (a : PySem.W.nsIn K mainGlobals x = some (some (.ref f))) (l : K.lookup f = some ⟨oc, od, .func (PySem.W.fnOf x x (defArgs st) (defBody st) (defScope st) .none kV doc pm an cdv ct), osl⟩)
    (c : PySem.W.codeIn K cdv x = true) (k : PySem.W.keepIn K (.ref f) = true) : FnAt K mg x st ps := by
  have F := fun_mk (st := st) l c k
  exact ⟨⟨f, _, F, PySem.W.mg_of X G a, F.binds hb⟩⟩
theorem DCal.imp {P : Program} {w : World} {K : PySem.W.Frag} {mg : Str → Option Value} {base : Heap} {k : Nat} {x : Str} {n : Nat} {sp sp' : DSp} (c : DCal P w K mg base k x n sp) (h : ∀ vs H Q E, liftSp K sp' vs H Q E → liftSp K sp vs H Q E) : DCal P w K mg base k x n sp' :=
  let ⟨f, fd, ps, F, r⟩ := c.ex; ⟨f, fd, ps, F.imp h, r⟩
theorem cut_to {xs : List D} {k : Int} (h : 0 ≤ k) : DL.cutD xs none (some k) = xs.take k.toNat := by
  obtain ⟨j, rfl⟩ : ∃ j : Nat, k = j := ⟨k.toNat, by omega⟩
  unfold DL.cutD
  rw [HT.sIx_nat, HT.sIx_none, List.drop_zero, Int.toNat_natCast, Nat.sub_zero]
  by_cases hj : j ≤ xs.length
  · rw [Nat.min_eq_left hj]
  · rw [Nat.min_eq_right (by omega), List.take_of_length_le (Nat.le_refl _), List.take_of_length_le (by omega)]
end DL
namespace DL
open PySem PySem.Spec PyProof.Rows L2
theorem cst_int {K : PySem.W.Frag} {h : Heap} {mg : Str → Option Value} {n : Str} {i : Int} {u : Tok} (X : K.In h) (G : h.Ns mainGlobals mg) (e : PySem.W.nsIn K mainGlobals n = some (some (.int i u))) : ∃ u, mg n = some (.int i u) := ⟨u, PySem.W.mg_of X G e⟩
theorem cst_str {K : PySem.W.Frag} {h : Heap} {mg : Str → Option Value} {n : Str} {i : Str} {u : Tok} (X : K.In h) (G : h.Ns mainGlobals mg) (e : PySem.W.nsIn K mainGlobals n = some (some (.str i u))) : ∃ u, mg n = some (.str i u) := ⟨u, PySem.W.mg_of X G e⟩
theorem FnAt.ofC {K : PySem.W.Frag} {h : Heap} {mg : Str → Option Value} (x : Str) (st : Stmt) (ps : List Str) {f : Addr} {oc : Value} {od an : Option Addr} {osl : Array (Option Value)} {kV doc pm cdv ct : Value} {R : Prop} (X : K.In h) (G : h.Ns mainGlobals mg)
    (hb : ∀ (kV doc pm : Value) (an : Option Addr) (cdv ct : Value) (us : List Value), us.length = ps.length → bindArgs (PySem.W.fnOf x x (defArgs st) (defBody st) (defScope st) .none kV doc pm an cdv ct) ⟨us, []⟩ = pure (ps.zip us))
    (a : PySem.W.nsIn K mainGlobals x = some (some (.ref f))) (l : K.lookup f = some ⟨oc, od, .func (PySem.W.fnOf x x (defArgs st) (defBody st) (defScope st) .none kV doc pm an cdv ct), osl⟩)
    (c : PySem.W.codeIn K cdv x = true) (k : PySem.W.keepIn K (.ref f) = true) (r : FnAt K mg x st ps → R) : R := r (.of X G hb a l c k)
end DL
namespace DL
open PySem PySem.Spec PyProof.Rows L2
def shows (d : PyData) : Bool := d.showable && decide (d.depth ≤ 60) && decide (d.shown.length ≤ 16777216) && (!d.hasDict || noL d)
theorem ShowOk.of {d : PyData} (h : shows d = true) : ShowOk d := by
  unfold shows at h
  simp only [Bool.and_eq_true, decide_eq_true_eq, Bool.or_eq_true, Bool.not_eq_true'] at h
  obtain ⟨⟨⟨h1, h2⟩, h3⟩, h4⟩ := h
  exact ⟨h1, h2, by rw [sizeLine_eq]; exact h3, fun z => h4.elim (fun e => by rw [e] at z; cases z) id⟩
def Shw (d : D) : Prop := ∃ p, toPy d = some p ∧ ShowOk p
def shwB (d : D) : Bool := match toPy d with
  | some p => shows p
  | none => false
theorem Shw.of {d : D} (h : shwB d = true) : Shw d := by
  unfold shwB at h
  split at h
  · rename_i p e
    exact ⟨p, e, .of h⟩
  · cases h
structure Okz (n : Nat) (x : Str) : Prop where
  len : x.length ≤ n
  cp : ∀ c ∈ x.cps.toList, c < 16 ^ 8
theorem Okz.mono {n m : Nat} {x : Str} (h : Okz n x) (l : n ≤ m) : Okz m x := ⟨Nat.le_trans h.len l, h.cp⟩
theorem Okz.app {n m : Nat} {x y : Str} (h : Okz n x) (k : Okz m y) : Okz (n + m) (x ++ y) :=
  ⟨by rw [strLen_append]; exact Nat.add_le_add h.len k.len, fun c hc => by
    rw [Str.cps_append, Array.toList_append] at hc
    exact (List.mem_append.mp hc).elim (h.cp c) (k.cp c)⟩
theorem Okz.cut {n : Nat} {x : Str} (h : Okz n x) (lo hi : Option Int) : Okz n (cutS x lo hi) :=
  ⟨Nat.le_trans (cutS_length x lo hi) h.len, fun c hc => h.cp c (by
    unfold L2.cutS at hc
    rw [List.toList_toArray] at hc
    exact List.mem_of_mem_drop (List.mem_of_mem_take hc))⟩
def okz (n : Nat) (x : Str) : Bool := decide (x.length ≤ n) && x.cps.toList.all fun c => decide (c < 16 ^ 8)
theorem Okz.of {n : Nat} {x : Str} (h : okz n x = true) : Okz n x := by
  unfold okz at h
  rw [Bool.and_eq_true] at h
  exact ⟨of_decide_eq_true h.1, fun c hc => of_decide_eq_true (List.all_eq_true.mp h.2 c hc)⟩
theorem Okz.repr {n : Nat} {x : Str} (h : Okz n x) : (reprText x).length ≤ 10 * n + 2 := Nat.le_trans (StrLaws.reprText_len x h.cp) (by have := h.len; omega)
theorem Okz.size {n : Nat} {x : Str} (h : Okz n x) (l : n ≤ 1000000) : x.length ≤ sizeLine := Nat.le_trans h.len (sz_nat n (by omega))
theorem Okz.shw {n : Nat} {x : Str} (h : Okz n x) (l : n ≤ 1000000) : Shw (.str x) :=
  ⟨.str x, rfl, rfl, Nat.zero_le _, Nat.le_trans h.repr (sz_nat _ (by omega)), fun z => by cases z⟩
theorem Okz.two {n m : Nat} {x y : Str} (h : Okz n x) (k : Okz m y) (l : n + m ≤ 1000000) : x.length + y.length ≤ sizeLine := by
  have := h.len
  have := k.len
  exact sz_nat _ (by omega)
theorem Okz.one {c : Nat} (h : c < 16 ^ 8) : Okz 1 ⟨#[c]⟩ := ⟨Nat.le_refl _, fun d hd => by
  have : d = c := by simpa using hd
  rw [this]; exact h⟩
end DL
namespace DL
open PySem PySem.Spec PyProof.Rows L2
theorem all_bl {xs : List D} (p : D → Bool) {Q : DK} {w : W} (q : Q (.bl ((xs.map p).all id)) w) : allR [.lst (xs.map fun x => .bl (p x))] w Q := ⟨⟨_, all_map _ _, q⟩⟩
theorem all_of {xs : List D} {bs : List Bool} {Q : DK} {w : W} (h : blsOf xs = some bs) (q : Q (.bl (bs.all id)) w) : allR [.lst xs] w Q := ⟨⟨_, h, q⟩⟩
theorem tick_eq {w1 w : W} {k : Nat} (hn : w1.n = w.n + k) (hm : w1.m = w.m := by rfl) (he : w1.e = w.e := by rfl) : w1 = w.tick k := by
  cases w1; cases w; cases hm; cases he; cases hn; rfl
section
variable {items : List D} {gd : DTG} {tt : DTT} {te : DTE} {vs : List Nat} {env : En} {w : W} {Q : DK} {fin : List D → W → DK → Prop}
end
end DL
namespace DL
open PySem PySem.Spec PyProof.Rows L2
def dkeys (kvs : List (Key × D)) : List D := kvs.map fun kv => kD kv.1
def dvals (kvs : List (Key × D)) : List D := kvs.map fun kv => kv.2
def ditems (kvs : List (Key × D)) : List D := kvs.map fun kv => .tup [kD kv.1, kv.2]
section
variable {K : PySem.W.Frag} {g : Gh} {L : Addr → Option Obj} {a : Addr} {o : Obj}
theorem RepK.get : ∀ {xs : List (Key × V)} {ds : List (Key × D)} {i : Nat} {k : Key} {d : D}, RepK K g xs ds → ds[i]? = some (k, d) → ∃ v, xs[i]? = some (k, v) ∧ Rep K g v d
  | _, _, i, k, d, .nil, h => by cases h
  | _, _, 0, k, d, .cons a r, h => by cases h; exact ⟨_, rfl, a⟩
  | _, _, i + 1, k, d, .cons a r, h => RepK.get (i := i) r h
theorem Rep.ofKey (k : Key) : Rep K g (kV k) (kD k) := by
  cases k with
  | inl i => exact .int i
  | inr x => exact .str x
theorem Rel.frzH {c : Ck} {w : W} {H : Hp} {xs : List (Key × V)} (R : Rel K c g w H) (hL : c.L a = some o) (hG : g.G a = some (.dK xs)) : H a = some (.frz o (.dK xs)) := by
  rcases R.imm a _ hG with ⟨h, _⟩ | ⟨o', h, e⟩
  · rw [hL] at h; cases h
  · rw [hL] at h; cases h; exact e
theorem isIt_keys {xs : List (Key × V)} {ds : List (Key × D)} (hL : L a = some o) (hG : g.G a = some (.dK xs)) (r : RepK K g xs ds) : IsIt K L g (dkeys ds) (Itk a o xs) where
  go := fun c i w H g' e l R hi => ⟨R.frzH (by rw [e]; exact hL) (l.G _ _ hG), by rw [r.length]; simpa [dkeys] using hi⟩
  yld := fun c i w H g' x H' d e l R hd ⟨e1, k, v, e2, e3⟩ => by
    subst e1; subst e3
    refine ⟨g', .rfl, R, ?_, fun _ _ z => z⟩
    unfold dkeys at hd
    rw [List.getElem?_map] at hd
    cases q : ds[i]? with
    | none => rw [q] at hd; cases hd
    | some kv =>
      rw [q] at hd; cases hd
      obtain ⟨u, h1, h2⟩ := r.get (k := kv.1) (d := kv.2) q
      rw [e2] at h1; cases h1
      exact .ofKey kv.1
  stop := fun c w H g' e l R => ⟨R.frzH (by rw [e]; exact hL) (l.G _ _ hG), by rw [r.length]; simp [dkeys]⟩
theorem isIt_vals {xs : List (Key × V)} {ds : List (Key × D)} (hL : L a = some o) (hG : g.G a = some (.dK xs)) (r : RepK K g xs ds) : IsIt K L g (dvals ds) (Itd a o xs) where
  go := fun c i w H g' e l R hi => ⟨R.frzH (by rw [e]; exact hL) (l.G _ _ hG), by rw [r.length]; simpa [dvals] using hi⟩
  yld := fun c i w H g' x H' d e l R hd ⟨e1, k, e2⟩ => by
    subst e1
    refine ⟨g', .rfl, R, ?_, fun _ _ z => z⟩
    unfold dvals at hd
    rw [List.getElem?_map] at hd
    cases q : ds[i]? with
    | none => rw [q] at hd; cases hd
    | some kv =>
      rw [q] at hd; cases hd
      obtain ⟨u, h1, h2⟩ := r.get (k := kv.1) (d := kv.2) q
      rw [e2] at h1; cases h1
      exact h2.le l
  stop := fun c w H g' e l R => ⟨R.frzH (by rw [e]; exact hL) (l.G _ _ hG), by rw [r.length]; simp [dvals]⟩
theorem isIt_items {xs : List (Key × V)} {ds : List (Key × D)} (hL : L a = some o) (hG : g.G a = some (.dK xs)) (r : RepK K g xs ds) : IsIt K L g (ditems ds) (Iti a o xs) where
  go := fun c i w H g' e l R hi => ⟨R.frzH (by rw [e]; exact hL) (l.G _ _ hG), by rw [r.length]; simpa [ditems] using hi⟩
  yld := fun c i w H g' x H' d e l R hd ⟨T, k, v, e1, e2, e3, e4⟩ => by
    subst e2; subst e4
    unfold ditems at hd
    rw [List.getElem?_map] at hd
    cases q : ds[i]? with
    | none => rw [q] at hd; cases hd
    | some kv =>
      rw [q] at hd; cases hd
      obtain ⟨u, h1, h2⟩ := r.get (k := kv.1) (d := kv.2) q
      rw [e1] at h1; cases h1
      have l2 := Gh.add_le (o := .tup [kV kv.1, v]) (R.noG e3)
      refine ⟨_, l2, R.alloc e3, .tup (.inl (.inl Gh.add_at)) (.cons (.ofKey kv.1) (.cons ((h2.le l).le l2) .nil)), fun b o' z => ?_⟩
      rw [upd_ne (ne_of_none z e3)]
      exact z
  stop := fun c w H g' e l R => ⟨R.frzH (by rw [e]; exact hL) (l.G _ _ hG), by rw [r.length]; simp [ditems]⟩
end
def dItV (t : DTE) : DTI := fun env w Q => t env w fun x w1 => match x with
  | .dic kvs => Q (dvals kvs) w1
  | _ => False
def dItI (t : DTE) : DTI := fun env w Q => t env w fun x w1 => match x with
  | .dic kvs => Q (ditems kvs) w1
  | _ => False
section
variable {X : Cx} {Wv : WX} {tg e : Expr} {t : DTE} {apos cpos : Pos}
theorem di_values (h : DE X Wv e t) (hbase : attributeBase e "values" X.env (eval e X.env) = eval e X.env := by rfl) (hline : (apos.endLine == cpos.line) = true := by rfl) : DI X Wv tg (.Call (.Attribute e "values" apos) [] [] cpos) (dItV t) :=
  ⟨PI_imp (pi_values (pe_lk h.pe) hbase hline) fun σ H Rv ⟨c, g, env, w, Q, B, q, k⟩ => bindE B q fun v H1 g1 w1 x l1 B1 r1 q1 => by
    cases r1 with
    | @dic a xs ds s r =>
      rcases B1.R.imm a _ s with ⟨hL, hH⟩ | ⟨o, hL, hH⟩
      · exact .inr ⟨a, _, hH, trivial, fun od nf => ⟨a, od, xs, rfl, upd_same, k _ w1 _ g1 _ _ l1 (.inr ⟨a, od, xs, hL, s, rfl, nf⟩) (B1.R.lock s) (isIt_vals updL_same s r) q1⟩⟩
      · exact .inl ⟨a, o, xs, rfl, hH, k _ w1 _ g1 _ _ l1 (.inl rfl) B1.R (isIt_vals hL s r) q1⟩
    | _ => exact False.elim q1⟩
theorem di_items {elts : List Expr} {kk : Nat} {tpos : Pos} (h : DE X Wv e t) (hbase : attributeBase e "items" X.env (eval e X.env) = eval e X.env := by rfl) (hline : (apos.endLine == cpos.line) = true := by rfl) : DI X Wv (.Tuple elts kk tpos) (.Call (.Attribute e "items" apos) [] [] cpos) (dItI t) :=
  ⟨PI_imp (pi_items (pe_lk h.pe) hbase hline) fun σ H Rv ⟨c, g, env, w, Q, B, q, k⟩ => bindE B q fun v H1 g1 w1 x l1 B1 r1 q1 => by
    cases r1 with
    | @dic a xs ds s r =>
      rcases B1.R.imm a _ s with ⟨hL, hH⟩ | ⟨o, hL, hH⟩
      · exact .inr ⟨a, _, hH, trivial, fun od nf => ⟨a, od, xs, rfl, upd_same, k _ w1 _ g1 _ _ l1 (.inr ⟨a, od, xs, hL, s, rfl, nf⟩) (B1.R.lock s) (isIt_items updL_same s r) q1⟩⟩
      · exact .inl ⟨a, o, xs, rfl, hH, k _ w1 _ g1 _ _ l1 (.inl rfl) B1.R (isIt_items hL s r) q1⟩
    | _ => exact False.elim q1⟩
end
end DL
namespace DL
open PySem PySem.Spec PyProof.Rows L2
def clsB : Stmt → List Stmt
  | .ClassDef (body := b) .. => b
  | _ => []
theorem RepF.lk {K : PySem.W.Frag} {g : Gh} {f : Str} : ∀ {xs : List (Str × V)} {ds : List (Str × D)}, RepF K g xs ds → (xs.lookup f = none ∧ ds.lookup f = none) ∨ ∃ v d, xs.lookup f = some v ∧ ds.lookup f = some d ∧ Rep K g v d
  | _, _, .nil => .inl ⟨rfl, rfl⟩
  | _, _, @RepF.cons _ _ k v vs d ds a r => by
    by_cases e : (f == k) = true
    · exact .inr ⟨v, d, by simp [List.lookup, e], by simp [List.lookup, e], a⟩
    · have e : (f == k) = false := by simpa using e
      have := RepF.lk (f := f) r
      simpa [List.lookup, e] using this
theorem RepF.get {K : PySem.W.Frag} {g : Gh} {f : Str} {xs : List (Str × V)} {ds : List (Str × D)} {d : D} (r : RepF K g xs ds) (h : ds.lookup f = some d) : ∃ v, xs.lookup f = some v ∧ Rep K g v d := by
  rcases r.lk (f := f) with ⟨_, e⟩ | ⟨v, d', e1, e2, a⟩
  · rw [e] at h; cases h
  · rw [e2] at h; cases h; exact ⟨v, e1, a⟩
theorem RepF.no {K : PySem.W.Frag} {g : Gh} {f : Str} {xs : List (Str × V)} {ds : List (Str × D)} (r : RepF K g xs ds) (h : ds.lookup f = none) : xs.lookup f = none := by
  rcases r.lk (f := f) with ⟨e, _⟩ | ⟨v, d', e1, e2, a⟩
  · exact e
  · rw [e2] at h; cases h
def putFD (f : Str) (d : D) : List (Str × D) → List (Str × D)
  | [] => [(f, d)]
  | (g, x) :: r => if g = f then (g, d) :: r else (g, x) :: putFD f d r
theorem RepF.put {K : PySem.W.Frag} {g : Gh} {f : Str} {v : V} {d : D} (a : Rep K g v d) : ∀ {xs : List (Str × V)} {ds : List (Str × D)}, RepF K g xs ds → RepF K g (putF f v xs) (putFD f d ds)
  | _, _, .nil => .cons a .nil
  | _, _, @RepF.cons _ _ k v' vs d' ds b r => by
    unfold putF putFD
    by_cases e : k = f
    · rw [if_pos e, if_pos e]; exact .cons a r
    · rw [if_neg e, if_neg e]; exact .cons b (RepF.put a r)
structure Fld (K : PySem.W.Frag) (n f : Str) : Prop where
  ex : ∃ C, ClsAt K n C ∧ Cls K C ∧ NoAttr K C f
theorem Rel.mins {K : PySem.W.Frag} {c : Ck} {g : Gh} {w : W} {H : Hp} (R : Rel K c g w H) {p dx : Addr} {n : Str} {ds : List (Str × D)} (h : w.m p = some (.ins n dx ds)) : ∃ C xs, ClsAt K n C ∧ H p = some (.ins C dx xs) ∧ RepF K g xs ds := by
  obtain ⟨_, _, _, o, e, r⟩ := R.mu p _ h
  cases r with
  | ins k r => exact ⟨_, _, k, e, r⟩
theorem Rel.other {K : PySem.W.Frag} {c : Ck} {g : Gh} {w : W} {H : Hp} (R : Rel K c g w H) {p : Addr} {o : HO} (h : H p = none) : Rel K c g w (upd H p o) := by
  refine ⟨fun a u e => ?_, R.lck, fun a m e => ?_, fun a q e => ?_, fun a e => ?_, R.ex⟩
  · rw [upd_ne (ne_of_none e (R.noG h))]; exact R.imm a u e
  · obtain ⟨h1, h2, h3, o', h4, h5⟩ := R.mu a m e
    exact ⟨h1, h2, h3, o', by rw [upd_ne (ne_of_none h4 h)]; exact h4, h5⟩
  · obtain ⟨h1, h2, h3⟩ := R.frm a q e
    exact ⟨by rw [upd_ne (ne_of_none h1 h)]; exact h1, h2, h3⟩
  · obtain ⟨h1, xs, h2, h3⟩ := R.pen a e
    exact ⟨h1, xs, by rw [upd_ne (ne_of_none h2 h)]; exact h2, h3⟩
def dFld (n f : Str) (t : DTE) : DTE := fun env w Q => t env w fun x w1 => match x with
  | .obj m fs => m = n ∧ ∃ d, fs.lookup f = some d ∧ Q d w1
  | .ref p => ∃ dx fs d, w1.m p = some (.ins n dx fs) ∧ fs.lookup f = some d ∧ Q d w1
  | _ => False
theorem de_fld {X : Cx} {Wv : WX} {e : Expr} {n f : Str} {t : DTE} {pos : Pos} (F : Fld X.K n f) (he : DE X Wv e t) (hb : attributeBase e f X.env (eval e X.env) = eval e X.env := by rfl) : DE X Wv (.Attribute e f pos) (dFld n f t) :=
  ⟨PE_imp (pe_fld he.pe hb) fun σ H Qv ⟨c, g, env, w, Q, B, q, k⟩ => bindE B q fun v H1 g1 w1 x l1 B1 r1 q1 => by
    obtain ⟨C, hC, hc, hn⟩ := F.ex
    cases r1 with
    | obj kC s r =>
      obtain ⟨rfl, d, e, q2⟩ := q1
      cases hC.eq kC
      obtain ⟨u, e1, ru⟩ := r.get e
      exact ⟨_, _, _, _, u, rfl, B1.R.ins s, hc, hn, e1, k _ _ ⟨g1, w1, d, l1, B1.R, ru, q2⟩⟩
    | ref p =>
      obtain ⟨dx, fs, d, e, e2, q2⟩ := q1
      obtain ⟨C', xs, kC, e3, r⟩ := B1.R.mins e
      cases hC.eq kC
      obtain ⟨u, e1, ru⟩ := r.get e2
      exact ⟨_, _, _, _, u, rfl, e3, hc, hn, e1, k _ _ ⟨g1, w1, d, l1, B1.R, ru, q2⟩⟩
    | _ => exact False.elim q1⟩
def dFldS (n f : Str) (to tv : DTE) : DTS := fun D env w => tv env w fun y w1 => to env w1 fun x w2 => match x with
  | .ref p => ∃ dx fs, w2.m p = some (.ins n dx fs) ∧ fs.length < 1000 ∧ D.nx env (w2.put p (.ins n dx (putFD f y fs)))
  | _ => False
theorem ds_fld {X : Cx} {Wv : WX} {o value : Expr} {n f : Str} {to tv : DTE} {pos pos' : Pos} (F : Fld X.K n f) (ho : DE X Wv o to) (hv : DE X Wv value tv) (hs : swapsWith value (some (.Attribute o f pos')) pos.line X.env = pure false := by rfl) : DS X Wv (.Assign [.Attribute o f pos'] value pos) (dFldS n f to tv) :=
  ⟨PS_imp (ps_fld ho.pe hv.pe hs) fun Dv σ H ⟨c, g, env, w, D, B, q, k⟩ => bindE B q fun y H1 g1 w1 d l1 B1 r1 q1 => bindE B1 q1 fun x H2 g2 w2 e l2 B2 r2 q2 => by
    obtain ⟨C, hC, hc, hn⟩ := F.ex
    cases r2 with
    | ref p =>
      obtain ⟨dx, fs, em, hl, q3⟩ := q2
      obtain ⟨C', xs, kC, e3, r⟩ := B2.R.mins em
      cases hC.eq kC
      refine ⟨p, _, dx, xs, rfl, e3, hc, hn, by rw [r.length]; exact hl, k.nx _ _ _ _ g2 (l1.trans l2) ⟨B2.R.write em (.ins hC (RepF.put (r1.le l2) r)), B2.E, B2.X⟩ q3⟩
    | _ => exact False.elim q2⟩
structure DMet (P : Program) (w : World) (K : PySem.W.Frag) (mg : Str → Option Value) (base : Heap) (k : Nat) (n m : Str) (ar : Nat) (sp : DSp) : Prop where
  ex : ∃ (C f : Addr) (fd : FuncData) (ps : List Str), ClsAt K n C ∧ Cls K C ∧ Meth K C m f ∧ FnG P w K mg base k f fd ps (liftSp K sp) ∧ Binds K fd ps [] ∧ ps.length = ar
theorem DMet.mono {P : Program} {w : World} {K : PySem.W.Frag} {mg : Str → Option Value} {base : Heap} {j k : Nat} {n m : Str} {ar : Nat} {sp : DSp} (c : DMet P w K mg base j n m ar sp) (h : j ≤ k) : DMet P w K mg base k n m ar sp :=
  let ⟨C, f, fd, ps, a, b, d, F, r⟩ := c.ex; ⟨C, f, fd, ps, a, b, d, F.mono h, r⟩
def dMethB (n m : Str) (sp : DSp) (x : D) (t : DTA) : DTE := fun env w1 Q => match x with
  | .obj n' fs => n' = n ∧ fs.lookup m = none ∧ t env w1 fun xs w2 => sp (.obj n' fs :: xs) (w2.inn env) fun d w3 => Q d (w3.as w2)
  | .ref p => ∃ dx fs, w1.m p = some (.ins n dx fs) ∧ fs.lookup m = none ∧ t env w1 fun xs w2 => sp (.ref p :: xs) (w2.inn env) fun d w3 => Q d (w3.as w2)
  | _ => False
def dMeth (n m : Str) (sp : DSp) (to : DTE) (t : DTA) : DTE := fun env w Q => to env w fun x w1 => dMethB n m sp x t env w1 Q
def tMethG (C : Addr) (m : Str) (sp : Sp) (Wv : WX) (ta : TE) (t : TA) : TE := fun σ H Q => ta σ H fun x H1 => ∃ a dx fs, x = .ref a ∧ H1 a = some (.ins C dx fs) ∧ fs.lookup m = none ∧ t σ H1 fun vs H2 => sp (x :: vs) H2 Q (WE Wv σ)
section
variable {X : Cx} {Wv : WX} {k ar : Nat} {f C : Addr} {fd : FuncData} {ps : List Str} {sp : Sp} {dsp : DSp} {m n x : Str} {p pos apos : Pos} {e o : Expr} {es : List Expr} {ta : TE} {t : TA} {to : DTE} {dt : DTA}
theorem pe_methG {pl : Sem Bool} (he : PE X o ta) (c : Cls X.K C) (hm : Meth X.K C m f) (F : FnG X.prog X.w X.K X.mg X.base k f fd ps sp) (hr : Room k X.A) (hgd : X.A.guards = some []) (hb : Binds X.K fd ps []) (tk : Takes X Wv) (ha : PA X (e :: es) t)
    (hst : starEach (e :: es) X.env = (false, eval e X.env) :: starEach es X.env) (hpl : (backTo pos (starEach es X.env)).any (·.1) = false)
    (ht : eval (.Call (.Attribute o m apos) (e :: es) [] pos) X.env = (do
      let ov ← eval o X.env
      standAt apos.atName
      let (f, first) ← holding [ov] (getMethod ov m pl)
      callWith pos f first (backTo pos (starEach (e :: es) X.env)) (backToKw pos (keywordEach [] X.env)))) :
    PE X (.Call (.Attribute o m apos) (e :: es) [] pos) (tMethG C m sp Wv ta t) := by
  refine ⟨fun pins s σ H Q I h => ?_⟩
  refine PySem.W.methodCall_KW (pl := pl) (thn (he.run pins s σ H _ I h) fun u s1 ⟨x, H1, I1, rx, a, dx, fs, ex, ea, l, q⟩ => ?_) ht
  subst ex
  obtain rfl : u = Value.ref a := rx
  refine getmeth_ok I1 ea c hm l ?_
  refine PySem.W.callWith_K (first := [.ref a]) (h₀ := X.base) I.ok.mod.kin hm.kp (thn (ha.run pos pins s1 σ H1 _ I1 q) fun us s2 ⟨vs, H2, I2, r, q2⟩ => ⟨I2.kIn, ?_⟩) hst hpl
  exact runG (us := .ref a :: us) (vs := .ref a :: vs) F hr hgd hb tk I2 (.cons rfl r) q2
theorem pe_methG0 {pl : Sem Bool} (he : PE X o ta) (c : Cls X.K C) (hm : Meth X.K C m f) (F : FnG X.prog X.w X.K X.mg X.base k f fd ps sp) (hr : Room k X.A) (hgd : X.A.guards = some []) (hb : Binds X.K fd ps []) (tk : Takes X Wv)
    (ht : eval (.Call (.Attribute o m apos) [] [] pos) X.env = (do
      let ov ← eval o X.env
      standAt apos.atName
      let (f, first) ← holding [ov] (getMethod ov m pl)
      callWith pos f first (backTo pos (starEach [] X.env)) (backToKw pos (keywordEach [] X.env)))) :
    PE X (.Call (.Attribute o m apos) [] [] pos) (tMethG C m sp Wv ta tNil) := by
  refine ⟨fun pins s σ H Q I h => ?_⟩
  refine PySem.W.methodCall_KW (pl := pl) (thn (he.run pins s σ H _ I h) fun u s1 ⟨x, H1, I1, rx, a, dx, fs, ex, ea, l, q⟩ => ?_) ht
  subst ex
  obtain rfl : u = Value.ref a := rx
  refine getmeth_ok I1 ea c hm l ?_
  exact PySem.W.callWith_K0 (first := [.ref a]) I1.kIn hm.kp (runG (us := [.ref a]) (vs := [.ref a]) F hr hgd hb tk I1 (.cons rfl .nil) q)
theorem sp_lift {c : Ck} {g g1 : Gh} {env : En} {w1 : W} {σ : St} {H1 : Hp} {Q : DK} {Qv : VK} {vs : List V} {xs : List D} (B1 : Bx X.K Wv c g1 env w1 σ H1) (l1 : g.le g1) (kk : ∀ v H', PQ X.K c g Q v H' → Qv v H') (r1 : RepL X.K g1 vs xs)
    (q1 : dsp xs (w1.inn env) fun d w2 => Q d (w2.as w1)) : liftSp X.K dsp vs H1 Qv (WE Wv σ) := by
  refine ⟨{ c with e := fun _ => c.e env }, g1, w1.inn env, xs, _, B1.R.inn env, r1, q1, fun v H' ⟨g2, w2, d, l2, R2, r2, q2⟩ => ?_, fun _ => rfl, fun cls d H' g' l' px => ?_⟩
  · exact kk v H' ⟨g2, w2.as w1, d, l1.trans l2, R2.out rfl rfl B1.R.ex, r2, q2⟩
  · refine B1.X env σ H' cls d g' l' (B1.E.le l') ?_
    obtain ⟨g3, w3, C, fs, e1, l3, R3, e3, m3⟩ := px
    exact ⟨g3, w3.as w1, C, fs, e1, l3, R3.out rfl rfl B1.R.ex, e3, m3⟩
theorem meth_lift {σ : St} {H : Hp} {Qv : VK} (hC : ClsAt X.K n C) (h : liftE X.K Wv (dMeth n m dsp to dt) σ H Qv) : tMethG C m (liftSp X.K dsp) Wv (liftE X.K Wv to) (liftA X.K Wv dt) σ H Qv := by
  obtain ⟨c, g, env, w, Q, B, q, kk⟩ := h
  refine bindE B q fun v H1 g1 w1 d l1 B1 r1 q1 => ?_
  unfold dMethB at q1
  cases r1 with
  | obj kC s r =>
    obtain ⟨rfl, e, q2⟩ := q1
    cases hC.eq kC
    refine ⟨_, _, _, rfl, B1.R.ins s, r.no e, bindA B1 q2 fun vs H2 g2 w2 xs l2 B2 r2 q3 => ?_⟩
    exact sp_lift B2 (l1.trans l2) kk (.cons (.obj kC (l2.G _ _ s) (r.le l2)) r2) q3
  | ref p =>
    obtain ⟨dx, fs, em, e, q2⟩ := q1
    obtain ⟨C', xs, kC, e3, r⟩ := B1.R.mins em
    cases hC.eq kC
    refine ⟨_, _, _, rfl, e3, r.no e, bindA B1 q2 fun vs H2 g2 w2 xs l2 B2 r2 q3 => ?_⟩
    exact sp_lift B2 (l1.trans l2) kk (.cons (.ref p) r2) q3
  | _ => exact False.elim q1
theorem de_meth {pl : Sem Bool} (F : DMet X.prog X.w X.K X.mg X.base k n m ar dsp) (hr : Room k X.A) (hgd : X.A.guards = some []) (tk : Takes X Wv) (ho : DE X Wv o to) (ha : DA X Wv (e :: es) dt)
    (hst : starEach (e :: es) X.env = (false, eval e X.env) :: starEach es X.env := by rfl) (hpl : (backTo pos (starEach es X.env)).any (·.1) = false := by rfl)
    (ht : eval (.Call (.Attribute o m apos) (e :: es) [] pos) X.env = (do
      let ov ← eval o X.env
      standAt apos.atName
      let (f, first) ← holding [ov] (getMethod ov m pl)
      callWith pos f first (backTo pos (starEach (e :: es) X.env)) (backToKw pos (keywordEach [] X.env))) := by rfl) :
    DE X Wv (.Call (.Attribute o m apos) (e :: es) [] pos) (dMeth n m dsp to dt) := by
  obtain ⟨C, f, fd, ps, hC, hc, hm, FF, hb, _⟩ := F.ex
  exact ⟨PE_imp (pe_methG ho.pe hc hm FF hr hgd hb tk ha.pa hst hpl ht) fun σ H Qv h => meth_lift hC h⟩
theorem de_meth0 {pl : Sem Bool} (F : DMet X.prog X.w X.K X.mg X.base k n m ar dsp) (hr : Room k X.A) (hgd : X.A.guards = some []) (tk : Takes X Wv) (ho : DE X Wv o to)
    (ht : eval (.Call (.Attribute o m apos) [] [] pos) X.env = (do
      let ov ← eval o X.env
      standAt apos.atName
      let (f, first) ← holding [ov] (getMethod ov m pl)
      callWith pos f first (backTo pos (starEach [] X.env)) (backToKw pos (keywordEach [] X.env))) := by rfl) :
    DE X Wv (.Call (.Attribute o m apos) [] [] pos) (dMeth n m dsp to dNil) := by
  obtain ⟨C, f, fd, ps, hC, hc, hm, FF, hb, _⟩ := F.ex
  refine ⟨PE_imp (pe_methG0 ho.pe hc hm FF hr hgd hb tk ht) fun σ H Qv h => ?_⟩
  obtain ⟨a, b, c, d, q⟩ := (show ∃ c g env w, _ from h)
  exact (fun z => z) (by
    have z := meth_lift (Wv := Wv) (to := to) (dt := dNil) hC h
    obtain ⟨c, g, env, w, Q, B, q, k⟩ := z
    refine ⟨c, g, env, w, Q, B, q, fun v H' pq => ?_⟩
    obtain ⟨a, dx, fs, h1, h2, h3, h4⟩ := k v H' pq
    obtain ⟨c', g', env', w', Q', B', q', k'⟩ := h4
    exact ⟨a, dx, fs, h1, h2, h3, k' [] _ ⟨g', w', [], .rfl, B'.R, .nil, q'⟩⟩)
theorem make_guards {A : Around} {C : Addr} {us : List Value} {kw : List (Str × Value)} : (A.under (.builtin "type.__call__" ⟨.ref C :: us, kw⟩)).guards = A.guards := by
  first | rfl | simp [Around.under, Code.weight, Code.isCreation, Code.isGuard, Code.isCaller, Code.frames, Code.isFrame, guardIds]
structure DMak (P : Program) (w : World) (K : PySem.W.Frag) (mg : Str → Option Value) (base : Heap) (k : Nat) (n : Str) (ar : Nat) (sp : DSp) : Prop where
  ex : ∃ (C f : Addr) (fd : FuncData) (ps : List Str), ClsAt K n C ∧ Mk K C f ∧ mg n = some (.ref C) ∧ FnG P w K mg base k f fd ps (liftSp K sp) ∧ Binds K fd ps [] ∧ ps.length = ar
theorem DMak.mono {P : Program} {w : World} {K : PySem.W.Frag} {mg : Str → Option Value} {base : Heap} {j k : Nat} {n : Str} {ar : Nat} {sp : DSp} (c : DMak P w K mg base j n ar sp) (h : j ≤ k) : DMak P w K mg base k n ar sp :=
  let ⟨C, f, fd, ps, a, b, d, F, r⟩ := c.ex; ⟨C, f, fd, ps, a, b, d, F.mono h, r⟩
def tMakeG (C : Addr) (sp : Sp) (Wv : WX) (t : TA) : TE := fun σ H Q => t σ H fun vs H1 => ∀ x dx, H1 x = none → H1 dx = none → dx ≠ x →
  sp (.ref x :: vs) (upd (upd H1 dx (.own x)) x (.ins C dx [])) (fun v H2 => v = .non ∧ Q (.ref x) H2) (WE Wv σ)
theorem run_makeG {pins : List (Addr × Obj)} {σ : St} {H : Hp} {s : Shared} {Q : VK} {us : List Value} {vs : List V} (M : Mk X.K C f) (F : FnG X.prog X.w X.K X.mg X.base k f fd ps sp) (hr : Room (k + 1) X.A) (hgd : X.A.guards = some []) (hb : Binds X.K fd ps [])
    (tk : Takes X Wv) (I : Inv X pins σ H s) (r : Vals vs us)
    (h : ∀ x dx, H x = none → H dx = none → dx ≠ x → sp (.ref x :: vs) (upd (upd H dx (.own x)) x (.ins C dx [])) (fun v H2 => v = .non ∧ Q (.ref x) H2) (WE Wv σ)) :
    wpAny (model X.prog X.w) X.A (call (.ref C) us) (EP X pins σ Q) X.xe s := by
  have hq := h (s.heap.objs.size + 1) s.heap.objs.size (I.hok.fresh (Nat.le_succ _)) (I.hok.fresh (Nat.le_refl _)) (Nat.ne_of_lt (Nat.lt_succ_self _))
  have I2 := Inv.made (C := C) I
  have r2 : Vals (V.ref (s.heap.objs.size + 1) :: vs) (Value.ref (s.heap.objs.size + 1) :: us) := .cons rfl r
  have hl : (Value.ref (s.heap.objs.size + 1) :: us).length = ps.length := by
    have e := r2.length
    rw [F.len _ _ _ _ hq] at e
    exact e.symm
  have bt := hb { s with heap := (s.heap.push PySem.W.emptyDict).push (PySem.W.instObj C s.heap.objs.size) } (Value.ref (s.heap.objs.size + 1) :: us) I2.kIn (by rw [List.append_nil]; exact hl)
  rw [List.append_nil] at bt
  refine wpAny_call (make_map (f := f) I.kIn M.makes M.init (beq_iff_eq.mp M.fn) (codeAny_mono (F.run _ X.stack _ _ ⟨Value.ref (s.heap.objs.size + 1) :: us, []⟩ (Value.ref (s.heap.objs.size + 1) :: us) _ _ _ (hr.make C us []) (make_guards.trans hgd)
    (I2.env0.make C us []) bt r2 hq) fun r s' hq' => ?_))
  cases r with
  | error e => exact passAt tk σ pins _ _ e s' I2 hq'
  | ok fl =>
    cases fl with
    | ret u =>
      obtain ⟨v, H', I3, rv, ev, q3⟩ := I2.after hq'
      subst ev
      exact ⟨rv, ⟨V.ref (s.heap.objs.size + 1), H', I3, rfl, q3⟩⟩
    | next => exact False.elim hq'
    | brk => exact False.elim hq'
    | cont => exact False.elim hq'
def dMake (n : Str) (sp : DSp) (t : DTA) : DTE := fun env w Q => t env w fun xs w1 => ∀ x dx, w1.m x = none → sp (.ref x :: xs) ((w1.put x (.ins n dx [])).inn env) fun d w2 => d = .non ∧ ∃ fs, w2.m x = some (.ins n dx fs) ∧ Q (.obj n fs) ((w2.del x).as w1)
theorem make_lift {σ : St} {H : Hp} {Qv : VK} (hC : ClsAt X.K n C) (h : liftE X.K Wv (dMake n dsp dt) σ H Qv) : tMakeG C (liftSp X.K dsp) Wv (liftA X.K Wv dt) σ H Qv := by
  obtain ⟨c, g, env, w, Q, B, q, kk⟩ := h
  refine bindA B q fun vs H1 g1 w1 xs l1 B1 r1 q1 => fun x dx hx hdx hne => ?_
  have hx' : (upd H1 dx (.own x)) x = none := by rw [upd_ne (Ne.symm hne)]; exact hx
  have R2 : Rel X.K c g1 (w1.put x (.ins n dx [])) (upd (upd H1 dx (.own x)) x (.ins C dx [])) := (B1.R.other hdx).allocM hx' (.ins hC .nil)
  have B2 : Bx X.K Wv c g1 env (w1.put x (.ins n dx [])) σ (upd (upd H1 dx (.own x)) x (.ins C dx [])) := ⟨R2, B1.E, B1.X⟩
  have e1 : w1.e = c.e := B1.R.ex
  refine sp_lift (Q := fun d w2 => d = .non ∧ ∃ fs, w2.m x = some (.ins n dx fs) ∧ Q (.obj n fs) (w2.del x)) B2 .rfl (fun v H' ⟨g2, w2, d, l2, R3, r2, hd, fs, em, q2⟩ => ?_) (.cons (.ref x) r1) (q1 x dx (B1.R.noM hx))
  subst hd
  cases r2
  refine ⟨rfl, ?_⟩
  obtain ⟨g3, l3, R4, r4⟩ := R3.frz em
  exact kk _ _ ⟨g3, _, _, (l1.trans l2).trans l3, R4, r4, q2⟩
theorem de_make (F : DMak X.prog X.w X.K X.mg X.base k n ar dsp) (hr : Room (k + 1) X.A) (hgd : X.A.guards = some []) (tk : Takes X Wv) (ha : DA X Wv (e :: es) dt) (hg : Gl X n := by rfl)
    (hdb : (n == ("__debug__" : Str)) = false := by decide) (he : starEach (e :: es) X.env = (false, eval e X.env) :: starEach es X.env := by rfl) (hpl : (backTo pos (starEach es X.env)).any (·.1) = false := by rfl) :
    DE X Wv (.Call (.Name n p) (e :: es) [] pos) (dMake n dsp dt) := by
  obtain ⟨C, f, fd, ps, hC, M, hm, FF, hb, _⟩ := F.ex
  refine ⟨PE_imp (t := tMakeG C (liftSp X.K dsp) Wv (liftA X.K Wv dt)) ⟨fun pins s σ H Q I h => ?_⟩ fun σ H Qv h => make_lift hC h⟩
  refine wpAny_Call_Name_kw (ld_glob I hg hm ?_ hdb)
  refine PySem.W.callWith_K (h₀ := X.base) I.ok.mod.kin M.kp (thn (ha.pa.run pos pins s σ H _ I h) fun us s1 ⟨vs, H1, I1, r, q⟩ => ⟨I1.kIn, ?_⟩) he hpl
  exact run_makeG M FF hr hgd hb tk I1 r q
end
end DL
namespace DL
open PySem PySem.Spec PyProof.Rows L2
def kS (e : Int × Value) : Str := match e.2 with
  | .str x _ => x
  | _ => Str.empty
section
variable {P : Program} {w : World}
def GoodS (P : Program) (w : World) (e : Int × Value) : Prop := ∃ x u, e.2 = Value.str x u ∧ e.1 = (strKind P w).hash x
def SetS (P : Program) (w : World) (h : Heap) (a : Addr) (S : Str → Bool) (n : Nat) : Prop :=
  ∃ ob ee p0 tb, h.get? a = some ob ∧ ob.ExactSet ∧ ob.data = .set ee p0 tb ∧ (∀ e ∈ ee.toList, GoodS P w e) ∧ (ee.toList.map kS).Nodup ∧ (∀ x, S x = true ↔ x ∈ ee.toList.map kS) ∧
    ee.size < scanBound ∧ tb.fits ee.size = true ∧ ee.size = n ∧ Ris tb.place.toList ∧ (w.params.followText "set-order" = true ∨ tb.led = true)
theorem goodS_el {l : List (Int × Value)} (g : ∀ e ∈ l, GoodS P w e) : ElemsOf (strKind P w) l := by
  intro e he
  obtain ⟨x, u, e1, e2⟩ := g e he
  refine ⟨⟨x, ?_, e2⟩, ?_⟩
  · rw [e1]; exact strKind_is P w x u
  · rw [e1] <;> rfl
theorem goodS_is {e : Int × Value} (g : GoodS P w e) (x : Str) : (strKind P w).is x e.2 = true ↔ kS e = x := by
  obtain ⟨y, u, e1, _⟩ := g
  unfold kS
  rw [e1]
  show ((y == x) = true) ↔ y = x
  exact beq_iff_eq
theorem goodS_mem {l : List (Int × Value)} (g : ∀ e ∈ l, GoodS P w e) (x : Str) : x ∈ l.map kS ↔ ∃ e ∈ l, (strKind P w).is x e.2 = true := by
  constructor
  · intro hx
    obtain ⟨e, he, q⟩ := List.mem_map.mp hx
    exact ⟨e, he, (goodS_is (g e he) x).mpr q⟩
  · intro ⟨e, he, q⟩
    exact List.mem_map.mpr ⟨e, he, (goodS_is (g e he) x).mp q⟩
theorem SetS.keep {h h' : Heap} {a : Addr} {S : Str → Bool} {n : Nat} (R : SetS P w h a S n) (k : ∀ o, h.get? a = some o → h'.get? a = some o) : SetS P w h' a S n :=
  let ⟨ob, ee, p0, tb, ho, r⟩ := R; ⟨ob, ee, p0, tb, k ob ho, r⟩
end
section
variable {P : Program} {w : World} {A : Around} {E : Value → Shared → Prop} {s : Shared} {a : Addr} {S : Str → Bool} {n : Nat}
theorem setS_tail {gr : Bool → Sem Unit} (hgr : ∀ (b : Bool) (s₁ : Shared) (Q' : Unit → Shared → Prop), Q' () s₁ → wpAny (model P w) A (gr b) Q' E s₁)
    {ob : Obj} {ee : Array (Int × Value)} {p0 : Nat} {tb : SetTable} (ho : s.heap.get? a = some ob) (hx : ob.ExactSet) (hd : ob.data = .set ee p0 tb)
    {e1 : Array (Int × Value)} {t2 : SetTable} {S' : Str → Bool} (g1 : ∀ e ∈ e1.toList, GoodS P w e) (nd1 : (e1.toList.map kS).Nodup) (m1 : ∀ x, S' x = true ↔ x ∈ e1.toList.map kS)
    (hb : e1.size < scanBound) (hf : t2.fits e1.size = true) (hr : Ris t2.place.toList) (hl : w.params.followText "set-order" = true ∨ t2.led = true) {wasDummy : Bool} {R : Option Bool → Shared → Prop}
    (hR : ∀ h', Heap.SameBut a s.heap h' → SetS P w h' a S' e1.size → R (some true) { s with heap := h' }) :
    wpAny (model P w) A (do
        storeSet a e1 t2
        if (!wasDummy && t2.tooFull) = true then do
            gr (relayAll t2 e1 (SetTable.grown e1.size)).2.2
            storeSet a (relayAll t2 e1 (SetTable.grown e1.size)).1 (relayAll t2 e1 (SetTable.grown e1.size)).2.1
            pure (some true)
          else pure (some true)) R E s := by
  have at1 := store_at (es' := e1) (t' := t2) ho hd
  have same1 := Heap.SameBut.update s.heap a (Obj.putSet e1 t2)
  refine wpAny_bind (wpAny_storeSet_of ho hd ?_ (fits_of_scanBound hb))
  split
  · have q1 := relayAll_perm t2 e1 (SetTable.grown e1.size)
    have q2 := relayAll_fits t2 e1 (SetTable.grown e1.size)
    have q3 := relayAll_ris t2 e1 (SetTable.grown e1.size)
    have q4 := relayAll_led t2 e1 (SetTable.grown e1.size)
    generalize relayAll t2 e1 (SetTable.grown e1.size) = Z at q1 q2 q3 q4 ⊢
    obtain ⟨e2, t3, gv⟩ := Z
    dsimp only at q1 q2 q3 q4 ⊢
    have sz : e2.size = e1.size := by simpa using q1.length_eq
    have hb2 : e2.size < scanBound := by omega
    have pk := q1.map kS
    refine wpAny_bind (hgr _ _ _ (wpAny_bind (wpAny_storeSet_of at1 rfl ?_ (fits_of_scanBound hb2))))
    have at2 := store_at (es' := e2) (t' := t3) at1 rfl
    refine wpAny_pure (hR _ (same1.trans (Heap.SameBut.update _ a _)) ⟨_, e2, _, t3, at2, hx, rfl, fun e he => g1 e (q1.mem_iff.mp he), pk.nodup_iff.mpr nd1, fun x => (m1 x).trans pk.mem_iff.symm, hb2, q2, sz, q3, ?_⟩)
    exact hl.imp id fun z => q4.trans z
  · exact wpAny_pure (hR _ same1 ⟨_, e1, _, t2, at1, hx, rfl, g1, nd1, m1, hb, hf, rfl, hr, hl⟩)
theorem setS_add {x : Str} {u : Tok} {Q : Bool → Shared → Prop} (R : SetS P w s.heap a S n) (room : n + 1 < scanBound)
    (hQ : ∀ h' m, Heap.SameBut a s.heap h' → m ≤ n + 1 → SetS P w h' a (fun y => S y || decide (y = x)) m → Q (!S x) { s with heap := h' }) :
    wpAny (model P w) A (setAddHashed a (.str x u) ((strKind P w).hash x)) Q E s := by
  obtain ⟨ob, ee, p0, tb, ho, hx, hd, g, nd, hm, hb, hf, hn, hr, hl⟩ := R
  have isx : (strKind P w).is x (.str x u) = true := strKind_is P w x u
  have scx : (Value.str x u).scannable = true := rfl
  have els : ElemsOf (strKind P w) ee.toList := goodS_el g
  unfold setAddHashed setAddHashedIn
  refine wpAny_holding (wpAny_bind (wpAny_setState_of ho hd hf ?_))
  dsimp only
  rw [byScan_of scx hb els]
  simp only [↓reduceIte]
  unfold setAddByScan
  refine wpAny_bind (wpAny_bind (wpAny_rule (wpAny_bind (wpAny_setScan_of isx ho hd hf els ?_))))
  cases fi : List.findIdx? (fun e => (strKind P w).is x e.2) ee.toList with
  | some j =>
    dsimp only
    obtain ⟨hj, pj, _⟩ := List.findIdx?_eq_some_iff_getElem.mp fi
    have yes : S x = true := (hm x).2 ((goodS_mem g x).2 ⟨ee.toList[j], List.getElem_mem hj, pj⟩)
    have q := hQ s.heap n (Heap.SameBut.refl a s.heap) (Nat.le_succ n) ⟨ob, ee, p0, tb, ho, hx, hd, g, nd, fun y => by
      rw [Bool.or_eq_true, decide_eq_true_eq, ← hm y]
      exact ⟨fun z => z.elim id (fun e => e ▸ yes), .inl⟩, hb, hf, hn, hr, hl⟩
    rw [yes] at q
    exact wpAny_pure (wpAny_pure q)
  | none =>
    dsimp only
    have away : x ∉ ee.toList.map kS := fun z => by
      obtain ⟨e, he, q⟩ := (goodS_mem g x).1 z
      have c := List.findIdx?_eq_none_iff.mp fi e he
      rw [q] at c
      cases c
    have no : S x = false := by
      cases q : S x with
      | false => rfl
      | true => exact absurd ((hm x).1 q) away
    have gw : ∀ (b : Bool) {s₁ : Shared} {Q' : Unit → Shared → Prop}, Q' () s₁ → wpAny (model P w) A (match b with | true => rule "set.scan.the-table-gave-way" | false => pure ()) Q' E s₁ := by
      intro b s₁ Q' q
      cases b <;> first | exact wpAny_pure q | exact wpAny_rule q
    have q1 := layNew_perm tb ee ((strKind P w).hash x) (.str x u)
    have q2 := layNew_fits tb ee ((strKind P w).hash x) (.str x u)
    have q3 := layNew_ris tb ee ((strKind P w).hash x) (.str x u) hr
    have q4 := layNew_led tb ee ((strKind P w).hash x) (.str x u)
    generalize layNew tb ee ((strKind P w).hash x) (.str x u) = Z at q1 q2 q3 q4 ⊢
    obtain ⟨e1, t1, wd, gv⟩ := Z
    dsimp only at q1 q2 q3 q4 ⊢
    rw [Array.toList_push] at q1
    have pc : e1.toList.Perm (((strKind P w).hash x, Value.str x u) :: ee.toList) := q1.trans (List.perm_append_singleton _ _)
    have pk : (e1.toList.map kS).Perm (x :: ee.toList.map kS) := pc.map kS
    have g1 : ∀ e ∈ e1.toList, GoodS P w e := by
      intro e he
      rcases List.mem_cons.mp (pc.mem_iff.mp he) with z | z
      · rw [z]; exact ⟨x, u, rfl, rfl⟩
      · exact g e z
    have nd1 : (e1.toList.map kS).Nodup := pk.nodup_iff.mpr (List.nodup_cons.mpr ⟨away, nd⟩)
    have m1 : ∀ y, (S y || decide (y = x)) = true ↔ y ∈ e1.toList.map kS := by
      intro y
      rw [Bool.or_eq_true, decide_eq_true_eq, hm y, pk.mem_iff, List.mem_cons]
      exact Or.comm
    have sz : e1.size = n + 1 := by
      have := pc.length_eq
      rw [List.length_cons, Array.length_toList, Array.length_toList, hn] at this
      exact this
    have hb1 : e1.size < scanBound := by omega
    have led1 : w.params.followText "set-order" = true ∨ t1.led = true := hl.imp id fun z => q4.trans z
    have fin : ∀ h', Heap.SameBut a s.heap h' → SetS P w h' a (fun y => S y || decide (y = x)) e1.size → Q true { s with heap := h' } := by
      intro h' sb r
      have q := hQ h' _ sb (by omega) r
      rw [no] at q
      exact q
    refine wpAny_bind (gw _ ?_)
    split
    · refine wpAny_bind ?_
      rw [hashByValue_scannable 8 scx]
      refine wpAny_pure (setS_tail ?_ ho hx hd g1 nd1 m1 hb1 ?_ ?_ ?_ ?_)
      · intro b s₁ Q' q; cases b <;> first | exact wpAny_pure q | exact wpAny_rule q
      · first | (split <;> first | exact q2 | exact SetTable.fits_plain_off q2) | exact q2
      · first | (split <;> exact q3) | exact q3
      · first | (split <;> exact led1) | exact led1
      · intro h' sb r; dsimp only; exact wpAny_pure (fin h' sb r)
    · refine wpAny_bind (wpAny_pure ?_)
      simp only [↓reduceIte]
      refine setS_tail ?_ ho hx hd g1 nd1 m1 hb1 q2 q3 led1 ?_
      · intro b s₁ Q' q; cases b <;> first | exact wpAny_pure q | exact wpAny_rule q
      · intro h' sb r; dsimp only; exact wpAny_pure (fin h' sb r)
end
def memT (xs : List Str) (i : Nat) (y : Str) : Bool := (xs.take i).any fun z => decide (z = y)
theorem memT_succ {xs : List Str} {i : Nat} {x : Str} (h : xs[i]? = some x) (y : Str) : memT xs (i + 1) y = (memT xs i y || decide (y = x)) := by
  unfold memT
  rw [List.take_succ, h]
  simp only [Option.toList, List.any_append, List.any_cons, List.any_nil, Bool.or_false]
  congr 1
  exact decide_eq_decide.mpr ⟨Eq.symm, Eq.symm⟩
section
variable {P : Program} {w : World} {A : Around} {R : Result → Shared → Prop} {I : Addr} {fp wr : List Addr} {G : Array GenState → Array GenState → Prop} {n : Nat} {Pn : Nat → Value → Prop} {St : Nat → Shared → Prop}
theorem setS_loop (W : WalksS P w A.in1 I fp wr G n Pn St) (b : Addr) (hbf : b ∉ fp) (xs : List Str) (hn : xs.length = n) (few : n + 1 < scanBound)
    (hval : ∀ i v, Pn i v → ∃ x t, xs[i]? = some x ∧ v = .str x t) :
    ∀ (k i : Nat) (s : Shared), n - i = k → i ≤ n → St i s → (∃ m, m ≤ i ∧ SetS P w s.heap b (memT xs i) m) →
      (∀ s' m, Moved (b :: wr) G s s' → SetS P w s'.heap b (memT xs n) m → R (.ok (.ret .none)) s') →
      codeAny (model P w) A (.builtin "set.update.loop" ⟨[.ref b, .ref I], []⟩) R s := by
  have hbw : b ∉ wr := fun h => hbf (W.sub _ h)
  have sub : ∀ c ∈ wr, c ∈ b :: wr := fun c hc => List.mem_cons_of_mem _ hc
  intro k
  induction k with
  | zero =>
    intro i s hk hi hst ⟨m, _, hS⟩ hR
    obtain rfl : i = n := by omega
    refine codeAny_builtin F.entry_set_update_loop ?_
    rw [Around.under_plainId F.plain_set_update_loop _]
    refine wpAny_bind (m := pyNext (.ref I)) (W.done s _ _ hst fun s' hm => ?_)
    exact wpAny_pure (hR s' m (hm.mono sub) (hS.keep fun o e => hm.heap b o hbw e))
  | succ k ih =>
    intro i s hk hi hst ⟨m, hmi, hS⟩ hR
    have lt : i < n := by omega
    refine codeAny_builtin F.entry_set_update_loop ?_
    rw [Around.under_plainId F.plain_set_update_loop _]
    refine wpAny_bind (m := pyNext (.ref I)) (W.item i s _ _ lt hst fun v s' hP hst' hm => ?_)
    obtain ⟨x, t, hx, rfl⟩ := hval i v hP
    have hS' : SetS P w s'.heap b (memT xs i) m := hS.keep fun o e => hm.heap b o hbw e
    show wpAny _ A.in1 (holding [Value.str x t] (setAdd b (.str x t)) >>= _) _ _ s'
    refine wpAny_bind (wpAny_holding ?_)
    unfold setAdd
    refine wpAny_holding (wpAny_bind ((strKind P w).pyHash (k := x) (strKind_is P w x t) ?_))
    refine setS_add (s := { s' with toks := s'.toks + 1 }) hS' (by omega) fun h' m2 same hm2 hS2 => ?_
    have hS3 : SetS P w h' b (memT xs (i + 1)) m2 := by
      have e : memT xs (i + 1) = fun y => memT xs i y || decide (y = x) := funext fun y => memT_succ hx y
      rw [e]; exact hS2
    refine wpAny_pure ⟨plainId_quiet F.plain_set_update_loop _, ih (i + 1) _ (by omega) lt (W.frame _ s' _ _ hst' (Nat.le_succ _) fun c hc o e => ?_) ⟨m2, by omega, hS3⟩ fun s'' m3 hm'' hS'' => ?_⟩
    · exact (same.2 c (fun z : c = b => hbf (by rw [← z]; exact hc))).trans e
    · refine hR s'' m3 (Moved.trans W.gtrans ((hm.mono sub).then_heap (Nat.le_succ _) fun c o hc e => ?_) hm'') hS''
      exact (same.2 c (fun z : c = b => hc (by rw [z]; exact List.mem_cons_self))).trans e
end
end DL
namespace DL
open PySem PySem.Spec PyProof.Rows L2
section
variable {P : Program} {w : World} {A : Around} {E : Value → Shared → Prop} {s : Shared}
theorem strs_get : ∀ {us : List Value} {xs : List Str}, StrsAre us xs → ∀ (i : Nat) (v : Value), us[i]? = some v → ∃ x t, xs[i]? = some x ∧ v = .str x t
  | _, _, .nil, i, v, h => by simp at h
  | _, _, .cons x t r, 0, v, h => by simp at h; exact ⟨x, t, rfl, h.symm⟩
  | _, _, .cons x t r, i + 1, v, h => strs_get r i v (by simpa using h)
def Fresh (w : World) (O : Obj) : Prop := O = { cls := .type "set", dict := none, data := .set #[] 0 (.fresh 0 0 (!w.params.followText "set-order")) }
theorem Fresh.set {O : Obj} {h : Heap} {a : Addr} (f : Fresh w O) (g : h.get? a = some O) : SetS P w h a (memT [] 0) 0 := by
  subst f
  refine ⟨_, #[], 0, _, g, ⟨rfl, rfl, rfl⟩, rfl, ?_, ?_, ?_, ?_, ?_, rfl, ?_, ?_⟩
  · intro e he; cases he
  · exact List.nodup_nil
  · intro x; exact ⟨fun z => (Bool.false_ne_true z).elim, fun z => by cases z⟩
  · decide
  · rfl
  · exact List.Pairwise.nil
  · cases q : w.params.followText "set-order" with
    | true => exact .inl rfl
    | false => exact .inr rfl
theorem set_of_list {l : Addr} {items : Array Value} {xs : List Str} {Q : Value → Shared → Prop} (hh : A.handled = none) (hl : s.heap.IsList l items) (hx : StrsAre items.toList xs) (few : xs.length + 1 < scanBound)
    (h : ∀ (h' : Heap) (tk m : Nat), SetS P w h' s.heap.objs.size (memT xs xs.length) m → (∀ b o, s.heap.get? b = some o → h'.get? b = some o) → Q (.ref s.heap.objs.size) { s with heap := h', toks := tk }) :
    wpAny (model P w) A (call (.type "set") [.ref l]) Q E s := by
  have isz : items.size = xs.length := by rw [← hx.length]; simp
  obtain ⟨c, tl, hmro⟩ := F.called_set.mro
  have made := F.called_set.made
  have sub0 := F.called_set.sub
  refine wpAny_call (codeAny_of_tree (show wpAny _ _ (callAny (.type "set") _) _ _ _ from ?_))
  refine wpAny_pure ⟨Code.quiet_builtin _ (by decide +kernel), codeAny_builtin F.entry_type_call ?_⟩
  rw [Around.under_plain (weight_type_call_type "set" [.ref l] []) rfl]
  have nt := F.called_set.notType
  have cc := F.called_set.canCreate
  have tc := F.typeCall_set_1 (.ref l)
  repeat (any_goals (first | assumption | wp_step))
  obtain ⟨O, hO⟩ : ∃ O : Obj, Fresh w O := ⟨_, rfl⟩
  refine codeAny_mono (code_set_led1 (.ref l) (E := E) (Q₁ := fun obj s₁ => obj = .ref s.heap.objs.size ∧ s₁ = { s with heap := s.heap.push O }) ⟨rfl, by have q : O = _ := hO; subst q; rfl⟩) fun r s₁ hr => ?_
  cases r with
  | error e => exact hr
  | ok fl =>
    cases fl with
    | ret obj =>
      obtain ⟨rfl, rfl⟩ := hr
      have gS : (s.heap.push O).get? s.heap.objs.size = some O := Heap.get?_push_size _ (by have q : O = _ := hO; subst q; rfl)
      have hT : Shared.TypeIs { s with heap := s.heap.push O } (.ref s.heap.objs.size) "set" := ⟨_, gS, by have q : O = _ := hO; subst q; rfl⟩
      have il := F.called_set.init.lookup
      have ib := F.called_set.init.bind (.ref s.heap.objs.size)
      repeat (any_goals (first | assumption | wp_step))
      refine codeAny_mono (codeAny_call_builtin (R := wants (fun r s₂ => r = .none ∧ ∃ h' tk m, s₂ = { s with heap := h', toks := tk } ∧ SetS P w h' s.heap.objs.size (memT xs xs.length) m ∧
          (∀ b o, s.heap.get? b = some o → h'.get? b = some o)) E) F.called_set.init.plain F.entry_set_init (check_set_init_1 hT ?_)) fun r₂ s₂ hr₂ => ?_
      · have q : O = _ := hO
        subst q
        obtain ⟨ol, gl, cl, nl, dl⟩ := hl
        obtain ⟨oc, od, oda, osl⟩ := ol
        simp only at cl dl
        subst cl; subst dl
        have gl' : (s.heap.push { cls := .type "set", dict := none, data := .set #[] 0 (.fresh 0 0 (!w.params.followText "set-order")) }).get? l = some { cls := .type "list", dict := od, data := .seq items nl, slots := osl } := Heap.get?_push_of_some _ gl
        have n1 := F.sub_list_set
        have n2 := F.sub_list_frozenset
        have n3 : (Value.type "list" == Value.type "dict") = false := by decide
        have li : (s.heap.push { cls := .type "set", dict := none, data := .set #[] 0 (.fresh 0 0 (!w.params.followText "set-order")) }).IsList l items := ⟨_, gl', rfl, nl, rfl⟩
        unfold Builtin.«set.__init__» noKeywords Builtin.Frozenset.updateFrom
        generalize hPI : pyIter = PI
        wp_walk
        subst hPI
        refine wpAny_pyIter_list li ?_; refine wpAny_bind (wpAny_runValue ?_)
        have ls : l < s.heap.objs.size := Heap.lt_size gl
        have hn : A.in1.in1.in1.handled = none := by simp [hh]
        have sz1 : (s.heap.push { cls := .type "set", dict := none, data := .set #[] 0 (.fresh 0 0 (!w.params.followText "set-order")) }).objs.size = s.heap.objs.size + 1 := Heap.size_push ..
        have ne : l ≠ (s.heap.push { cls := .type "set", dict := none, data := .set #[] 0 (.fresh 0 0 (!w.params.followText "set-order")) }).objs.size := by
          rw [sz1]; exact Nat.ne_of_lt (Nat.lt_succ_of_lt ls)
        have nf : s.heap.objs.size ∉ [(s.heap.push { cls := .type "set", dict := none, data := .set #[] 0 (.fresh 0 0 (!w.params.followText "set-order")) }).objs.size, l] := by
          rw [sz1]
          intro z
          rcases List.mem_cons.mp z with z | z
          · exact absurd z (Nat.ne_of_lt (Nat.lt_succ_self _))
          · exact absurd (List.mem_singleton.mp z) (Nat.ne_of_gt ls)
        refine setS_loop ((Walks.list hn _ l ne items).toS) s.heap.objs.size nf xs isz.symm (by omega) (fun i v hv => strs_get hx i v (by rw [Array.getElem?_toList]; exact hv)) (items.size - 0) 0 _ (by omega) (Nat.zero_le _)
          ⟨⟨_, Heap.get?_push_size _ rfl, rfl, rfl⟩, (li.push _)⟩ ⟨0, Nat.le_refl _, ?hS0⟩ ?hR
        case hS0 => exact hO.set (Heap.get?_push_of_some _ gS)
        case hR =>
          intro s' m hm hS'
          obtain ⟨h', g2, d', tk', os'⟩ := s'
          obtain rfl : g2 = s.gens := hm.gens
          obtain rfl : d' = s.drawn := hm.drawn
          obtain rfl : os' = s.os := hm.os
          show wpAny _ _ _ _ _ _
          refine wpAny_pure ?_
          show wpAny _ _ (ret Value.none) _ _ _
          rw [isz] at hS'
          refine wpAny_pure ⟨rfl, h', tk', m, rfl, hS', fun b o e => ?_⟩
          have b1 := Heap.lt_size e
          refine hm.heap b o ?_ (Heap.get?_push_of_some _ (Heap.get?_push_of_some _ e))
          intro z
          rcases List.mem_cons.mp z with z | z
          · exact absurd z (Nat.ne_of_lt b1)
          · exact absurd (List.mem_singleton.mp z) (by rw [sz1]; exact Nat.ne_of_lt (Nat.lt_succ_of_lt b1))
      · cases r₂ with
        | error e => exact hr₂
        | ok fl₂ =>
          cases fl₂ with
          | ret r =>
            obtain ⟨rfl, h', tk, m, rfl, hS', hk'⟩ := hr₂
            repeat (any_goals (first | assumption | wp_step))
            exact h _ _ _ hS' hk'
          | _ => exact hr₂.elim
    | _ => exact hr.elim
theorem set_of_tuple {l : Addr} {items : Array Value} {xs : List Str} {Q : Value → Shared → Prop} (hh : A.handled = none) (hl : s.heap.IsTuple l items) (hx : StrsAre items.toList xs) (few : xs.length + 1 < scanBound)
    (h : ∀ (h' : Heap) (tk m : Nat), SetS P w h' s.heap.objs.size (memT xs xs.length) m → (∀ b o, s.heap.get? b = some o → h'.get? b = some o) → Q (.ref s.heap.objs.size) { s with heap := h', toks := tk }) :
    wpAny (model P w) A (call (.type "set") [.ref l]) Q E s := by
  have isz : items.size = xs.length := by rw [← hx.length]; simp
  obtain ⟨c, tl, hmro⟩ := F.called_set.mro
  have made := F.called_set.made
  have sub0 := F.called_set.sub
  refine wpAny_call (codeAny_of_tree (show wpAny _ _ (callAny (.type "set") _) _ _ _ from ?_))
  refine wpAny_pure ⟨Code.quiet_builtin _ (by decide +kernel), codeAny_builtin F.entry_type_call ?_⟩
  rw [Around.under_plain (weight_type_call_type "set" [.ref l] []) rfl]
  have nt := F.called_set.notType
  have cc := F.called_set.canCreate
  have tc := F.typeCall_set_1 (.ref l)
  repeat (any_goals (first | assumption | wp_step))
  obtain ⟨O, hO⟩ : ∃ O : Obj, Fresh w O := ⟨_, rfl⟩
  refine codeAny_mono (code_set_led1 (.ref l) (E := E) (Q₁ := fun obj s₁ => obj = .ref s.heap.objs.size ∧ s₁ = { s with heap := s.heap.push O }) ⟨rfl, by have q : O = _ := hO; subst q; rfl⟩) fun r s₁ hr => ?_
  cases r with
  | error e => exact hr
  | ok fl =>
    cases fl with
    | ret obj =>
      obtain ⟨rfl, rfl⟩ := hr
      have gS : (s.heap.push O).get? s.heap.objs.size = some O := Heap.get?_push_size _ (by have q : O = _ := hO; subst q; rfl)
      have hT : Shared.TypeIs { s with heap := s.heap.push O } (.ref s.heap.objs.size) "set" := ⟨_, gS, by have q : O = _ := hO; subst q; rfl⟩
      have il := F.called_set.init.lookup
      have ib := F.called_set.init.bind (.ref s.heap.objs.size)
      repeat (any_goals (first | assumption | wp_step))
      refine codeAny_mono (codeAny_call_builtin (R := wants (fun r s₂ => r = .none ∧ ∃ h' tk m, s₂ = { s with heap := h', toks := tk } ∧ SetS P w h' s.heap.objs.size (memT xs xs.length) m ∧
          (∀ b o, s.heap.get? b = some o → h'.get? b = some o)) E) F.called_set.init.plain F.entry_set_init (check_set_init_1 hT ?_)) fun r₂ s₂ hr₂ => ?_
      · have q : O = _ := hO
        subst q
        obtain ⟨ol, gl, cl, nl, dl⟩ := hl
        obtain ⟨oc, od, oda, osl⟩ := ol
        simp only at cl dl
        subst cl; subst dl
        have gl' : (s.heap.push { cls := .type "set", dict := none, data := .set #[] 0 (.fresh 0 0 (!w.params.followText "set-order")) }).get? l = some { cls := .type "tuple", dict := od, data := .seq items nl, slots := osl } := Heap.get?_push_of_some _ gl
        have n1 := F.sub_tuple_set
        have n2 := F.sub_tuple_frozenset
        have n3 : (Value.type "tuple" == Value.type "dict") = false := by decide
        have li : (s.heap.push { cls := .type "set", dict := none, data := .set #[] 0 (.fresh 0 0 (!w.params.followText "set-order")) }).IsTuple l items := ⟨_, gl', rfl, nl, rfl⟩
        unfold Builtin.«set.__init__» noKeywords Builtin.Frozenset.updateFrom
        generalize hPI : pyIter = PI
        wp_walk
        subst hPI
        refine wpAny_pyIter_tuple li ?_; refine wpAny_bind (wpAny_runValue ?_)
        have ls : l < s.heap.objs.size := Heap.lt_size gl
        have hn : A.in1.in1.in1.handled = none := by simp [hh]
        have sz1 : (s.heap.push { cls := .type "set", dict := none, data := .set #[] 0 (.fresh 0 0 (!w.params.followText "set-order")) }).objs.size = s.heap.objs.size + 1 := Heap.size_push ..
        have ne : l ≠ (s.heap.push { cls := .type "set", dict := none, data := .set #[] 0 (.fresh 0 0 (!w.params.followText "set-order")) }).objs.size := by
          rw [sz1]; exact Nat.ne_of_lt (Nat.lt_succ_of_lt ls)
        have nf : s.heap.objs.size ∉ [(s.heap.push { cls := .type "set", dict := none, data := .set #[] 0 (.fresh 0 0 (!w.params.followText "set-order")) }).objs.size, l] := by
          rw [sz1]
          intro z
          rcases List.mem_cons.mp z with z | z
          · exact absurd z (Nat.ne_of_lt (Nat.lt_succ_self _))
          · exact absurd (List.mem_singleton.mp z) (Nat.ne_of_gt ls)
        refine setS_loop ((Walks.tuple hn _ l ne items).toS) s.heap.objs.size nf xs isz.symm (by omega) (fun i v hv => strs_get hx i v (by rw [Array.getElem?_toList]; exact hv)) (items.size - 0) 0 _ (by omega) (Nat.zero_le _)
          ⟨⟨_, Heap.get?_push_size _ rfl, rfl, rfl⟩, (li.push _)⟩ ⟨0, Nat.le_refl _, ?hS0⟩ ?hR
        case hS0 => exact hO.set (Heap.get?_push_of_some _ gS)
        case hR =>
          intro s' m hm hS'
          obtain ⟨h', g2, d', tk', os'⟩ := s'
          obtain rfl : g2 = s.gens := hm.gens
          obtain rfl : d' = s.drawn := hm.drawn
          obtain rfl : os' = s.os := hm.os
          show wpAny _ _ _ _ _ _
          refine wpAny_pure ?_
          show wpAny _ _ (ret Value.none) _ _ _
          rw [isz] at hS'
          refine wpAny_pure ⟨rfl, h', tk', m, rfl, hS', fun b o e => ?_⟩
          have b1 := Heap.lt_size e
          refine hm.heap b o ?_ (Heap.get?_push_of_some _ (Heap.get?_push_of_some _ e))
          intro z
          rcases List.mem_cons.mp z with z | z
          · exact absurd z (Nat.ne_of_lt b1)
          · exact absurd (List.mem_singleton.mp z) (by rw [sz1]; exact Nat.ne_of_lt (Nat.lt_succ_of_lt b1))
      · cases r₂ with
        | error e => exact hr₂
        | ok fl₂ =>
          cases fl₂ with
          | ret r =>
            obtain ⟨rfl, h', tk, m, rfl, hS', hk'⟩ := hr₂
            repeat (any_goals (first | assumption | wp_step))
            exact h _ _ _ hS' hk'
          | _ => exact hr₂.elim
    | _ => exact hr.elim
end
end DL
namespace DL
open PySem PySem.Spec PyProof.Rows L2
def leT (a b : Str) : Bool := decide (a.cps.toList ≤ b.cps.toList)
def sortT (xs : List Str) : List Str := xs.mergeSort leT
theorem leT_data : PySem.W.dataLe false (fun b : Str => PyData.str b) = leT := PySem.W.dataLe_str id
theorem leT_total (a b : Str) : (leT a b || leT b a) = true := by
  unfold leT
  rcases List.le_total a.cps.toList b.cps.toList with h | h
  · rw [decide_eq_true h]; rfl
  · rw [decide_eq_true h, Bool.or_true]
theorem leT_trans (a b c : Str) (h1 : leT a b = true) (h2 : leT b c = true) : leT a c = true := by
  unfold leT at *
  exact decide_eq_true (List.le_trans (of_decide_eq_true h1) (of_decide_eq_true h2))
theorem leT_anti {a b : Str} (h1 : leT a b = true) (h2 : leT b a = true) : a = b := by
  unfold leT at *
  have e := List.le_antisymm (of_decide_eq_true h1) (of_decide_eq_true h2)
  cases a; cases b
  congr 1
  exact Array.toList_inj.mp e
theorem sortT_perm (xs : List Str) : (sortT xs).Perm xs := List.mergeSort_perm _ _
theorem sortT_ord (xs : List Str) : (sortT xs).Pairwise fun a b => leT a b = true := List.pairwise_mergeSort leT_trans leT_total xs
theorem sortT_eq {xs ys : List Str} (h : xs.Perm ys) : sortT xs = sortT ys :=
  List.Perm.eq_of_pairwise (fun a b _ _ h1 h2 => leT_anti h1 h2) (sortT_ord xs) (sortT_ord ys) (((sortT_perm xs).trans h).trans (sortT_perm ys).symm)
def nubT : List Str → List Str
  | [] => []
  | x :: r => if x ∈ r then nubT r else x :: nubT r
theorem nubT_mem {y : Str} : ∀ {xs : List Str}, y ∈ nubT xs ↔ y ∈ xs
  | [] => Iff.rfl
  | x :: r => by
    unfold nubT
    by_cases h : x ∈ r
    · rw [if_pos h, nubT_mem, List.mem_cons]
      exact ⟨.inr, fun z => z.elim (fun e => e ▸ h) id⟩
    · rw [if_neg h, List.mem_cons, List.mem_cons, nubT_mem]
theorem nubT_nodup : ∀ xs : List Str, (nubT xs).Nodup
  | [] => List.nodup_nil
  | x :: r => by
    unfold nubT
    by_cases h : x ∈ r
    · rw [if_pos h]; exact nubT_nodup r
    · rw [if_neg h]; exact List.nodup_cons.mpr ⟨fun z => h (nubT_mem.mp z), nubT_nodup r⟩
theorem memT_all {xs : List Str} {y : Str} : memT xs xs.length y = true ↔ y ∈ xs := by
  unfold memT
  rw [List.take_length, List.any_eq_true]
  exact ⟨fun ⟨z, hz, e⟩ => of_decide_eq_true e ▸ hz, fun h => ⟨y, h, decide_eq_true rfl⟩⟩
open PySem.W in
theorem strs_of_each : ∀ {vs : List Value} {bs : List Str}, EachIs (fun v b => ∃ t, v = Value.str b t) vs bs → StrsAre vs bs
  | _, _, .nil => .nil
  | _, _, .cons ⟨t, e⟩ r => by subst e; exact .cons _ t (strs_of_each r)
open PySem.W in
theorem each_of_strs : ∀ {vs : List Value} {bs : List Str}, StrsAre vs bs → EachIs (fun v b => ∃ t, v = Value.str b t) vs bs
  | _, _, .nil => .nil
  | _, _, .cons _ t r => .cons ⟨t, rfl⟩ (each_of_strs r)
def Nw (h : Heap) (p : Addr) : Prop := ∃ h1 : Heap, (∀ b o, h.get? b = some o → h1.get? b = some o) ∧ h1.objs.size ≤ p
section
variable {P : Program} {w : World} {A : Around} {E : Value → Shared → Prop} {s : Shared} {r : Addr}
open PySem.W in
theorem sorted_texts {xs : List Str} {Q : Value → Shared → Prop} (hz : xs.length ≤ sizeLine) (hu : A.units + 8 < cLine)
    (col : ∀ Q1 : List Value → Shared → Prop, (∀ s1 vs ys, (∀ b o, s.heap.get? b = some o → s1.heap.get? b = some o) → s1.gens = s.gens → s1.os = s.os → StrsAre vs ys → ys.Perm xs → Q1 vs s1) → wpAny (model P w) A.in1 (collect (.ref r)) Q1 E s)
    (hQ : ∀ s' p (out : Array Value) c, (∀ b o, s.heap.get? b = some o → s'.heap.get? b = some o) → s'.gens = s.gens → s'.os = s.os → Nw s.heap p → s'.heap.get? p = some (seqObj "list" out c) → StrsAre out.toList (sortT xs) → Q (.ref p) s') :
    wpAny (model P w) A (call (.builtin "sorted") [.ref r]) Q E s := by
  refine Calls.call_function_entry kind_sorted plain_sorted entry_sorted (args_sorted1 (.ref r)) ?_
  unfold Builtin.«sorted»
  refine wpAny_bind (m := checkCount "sorted" 1 1 _) (wpAny_pure (wpAny_bind (col _ fun s1 vs ys k1 g1 o1 hv hp => ?_)))
  have hl : vs.length = xs.length := hv.length.trans hp.length_eq
  refine wpAny_bind (wpAny_newList ?_ (by omega))
  have at0 : (s1.heap.push (seqObj "list" vs.toArray 0)).get? s1.heap.objs.size = some (seqObj "list" vs.toArray 0) := Heap.get?_push_size _ rfl
  have ev := each_of_strs hv
  refine wpAny_bind (wpAny_holding (list_sort_data (enc := fun b : Str => PyData.str b) (R := fun v b => ∃ t, v = Value.str b t) (s := { s1 with heap := s1.heap.push (seqObj "list" vs.toArray 0) }) at0 ev (ev.mono fun v b ⟨t, e⟩ => ⟨[], by subst e; exact .str b t, fun z => by cases z⟩)
    (.of fun _ _ => rfl) (.others fun b => ⟨fun z => (by cases z), fun xs z => (by cases z)⟩) (by rw [hp.length_eq]; exact hz) (fun b _ => by show A.units + 1 + 1 + 0 < cLine; omega) fun out lo eo => ?_))
  obtain ⟨c, hc⟩ := sortedHeap_at (vs := vs) (out := out.toArray) at0
  refine wpAny_pure ⟨_, rfl, hQ { s1 with heap := sortedHeap (s1.heap.push (seqObj "list" vs.toArray 0)) s1.heap.objs.size vs out.toArray } s1.heap.objs.size out.toArray c (fun b o e => ?_) g1 o1 ⟨s1.heap, k1, Nat.le_refl _⟩ hc ?_⟩
  · have q := k1 b o e
    have lt := Heap.lt_size q
    refine (sortedHeap_old (Nat.ne_of_lt lt) (by rw [size_push']; exact Nat.lt_succ_of_lt lt)).trans ?_
    exact Heap.get?_push_of_some _ q
  · have z := strs_of_each eo
    rw [leT_data] at z
    have e : ys.mergeSort leT = sortT xs := sortT_eq hp
    rw [← e]
    simpa using z
theorem sorted_setS {S : Str → Bool} {n : Nat} {xs : List Str} {Q : Value → Shared → Prop} (R : SetS P w s.heap r S n) (hS : ∀ y, S y = true ↔ y ∈ xs) (hh : A.handled = none) (hz : xs.length ≤ sizeLine) (hu : A.units + 8 < cLine)
    (hQ : ∀ s' p (out : Array Value) c, (∀ b o, s.heap.get? b = some o → s'.heap.get? b = some o) → s'.gens = s.gens → s'.os = s.os → Nw s.heap p → s'.heap.get? p = some (seqObj "list" out c) → StrsAre out.toList (sortT (nubT xs)) → Q (.ref p) s') :
    wpAny (model P w) A (call (.builtin "sorted") [.ref r]) Q E s := by
  obtain ⟨ob, ee, p0, tb, ho, hx, hd, g, nd, hm, hb, hf, hn, hr, hl⟩ := R
  have len : (nubT xs).length ≤ xs.length := by
    clear hS hz hQ
    induction xs with
    | nil => exact Nat.le_refl _
    | cons x r ih =>
      unfold nubT
      split
      · exact Nat.le_succ_of_le ih
      · exact Nat.succ_le_succ ih
  refine sorted_texts (xs := nubT xs) (Nat.le_trans len hz) hu (fun Q1 h1 => ?_) hQ
  refine collect_set (A := A.in1) hh ⟨ob, ho, hx.1, hd⟩ hf hb hr hl fun s1 vs k1 hs g1 o1 pm => ?_
  have key : ∀ us : List Value, (∀ v ∈ us, v ∈ ee.toList.map (·.2)) → ∃ ys, StrsAre us ys ∧ us.map (fun v => match v with | .str x _ => x | _ => Str.empty) = ys := by
    intro us
    induction us with
    | nil => intro _; exact ⟨[], .nil, rfl⟩
    | cons v us ih =>
      intro hv
      obtain ⟨ys, e1, e2⟩ := ih fun u hu => hv u (List.mem_cons_of_mem _ hu)
      obtain ⟨e, he, q⟩ := List.mem_map.mp (hv v List.mem_cons_self)
      obtain ⟨x, u, q1, _⟩ := g e he
      have q2 : v = Value.str x u := q.symm.trans q1
      subst q2
      exact ⟨x :: ys, .cons x u e1, by rw [List.map_cons, e2]⟩
  obtain ⟨ys, y1, y2⟩ := key vs fun v hv => pm.mem_iff.mp hv
  refine h1 s1 vs ys k1 g1 o1 y1 ?_
  have py : ys.Perm (ee.toList.map kS) := by
    rw [← y2]
    have q := pm.map fun v => match v with | .str x _ => x | _ => Str.empty
    rw [List.map_map] at q
    exact q
  refine (List.perm_ext_iff_of_nodup (py.nodup_iff.mpr nd) (nubT_nodup xs)).mpr fun y => ?_
  rw [py.mem_iff, ← hm y, hS y, nubT_mem]
end
end DL
namespace DL
open PySem PySem.Spec PyProof.Rows L2
theorem putD_len {κ : Type} [DecidableEq κ] (kvs : List (κ × D)) (k : κ) (v : D) : (putD kvs k v).length ≤ kvs.length + 1 := by
  unfold putD
  split
  · rw [List.length_map]; omega
  · rw [List.length_append]; exact Nat.le_refl _
def dDcG (fin : List (Key × D) → W → DK → Prop) (ti : DTI) (gd : DTG) (tt : DTT) (tk te : DTE) (vs : List Nat) : DTE := fun env w Q => ti env w fun items w1 => items.length ≤ sizeLine ∧ ∃ Pv : Nat → List (Key × D) → W → Prop, Pv 0 [] w1 ∧
  (∀ i x acc w2, items[i]? = some x → acc.length ≤ i → Pv i acc w2 → gd x (wipeD env vs) w2.mute fun env2 w3 => tt env2 w3 fun b w4 => if b = true then tk env2 w4 fun y w5 => te env2 w5 fun z w6 => ∃ k, keyOf y = some k ∧ Pv (i + 1) (putD acc k z) (w6.as w1) else Pv (i + 1) acc (w4.as w1)) ∧
  ∀ acc w2, Pv items.length acc w2 → fin acc w2 Q
theorem dc_lift {X : Cx} {Wv : WX} {fin : List (Key × D) → W → DK → Prop} (hfin : FinDOk X.K fin) {ti : DTI} {gd : DTG} {tt : DTT} {tk te : DTE} {sl vs : List Nat} (hsl : ∀ i ∈ sl, i ∈ vs) {σ : St} {H : Hp} {Qv : VK} (h : liftE X.K Wv (dDcG fin ti gd tt tk te vs) σ H Qv) :
    tDc (liftI X Wv ti) (liftG X.K W0 sl gd) (liftT X.K W0 tt) (liftE X.K W0 tk) (liftE X.K W0 te) vs σ H (unlV X Qv) := by
  obtain ⟨c, g, env, w, Q, B, q, k⟩ := h
  refine ⟨c, g, env, w, _, B, q, fun items w1 H1 g1 J c1 l1 lk R1 it q1 => fun D hD => ?_⟩
  obtain ⟨hz, Pv, h0, hstep, hd⟩ := q1
  have hF : c1.F D = none := R1.noF hD
  refine ⟨fun i m H => m = items.length - i ∧ i ≤ items.length ∧ ∃ g2 acc accv w2, g1.le g2 ∧ RepK X.K g2 accv acc ∧ acc.length ≤ i ∧ Rel X.K (c1.fr D (.dK accv)) g2 w2 H ∧ Pv i acc w2,
    ⟨items.length, by simp, Nat.zero_le _, g1, [], [], w1, .rfl, .nil, Nat.le_refl _, R1.allocF hD, h0⟩, ?_⟩
  rintro i m H2 ⟨rfl, hi, g2, acc, accv, w2, l2, r2, ha, R2, p⟩
  by_cases hlt : i < items.length
  · refine .inr ⟨it.go (c1.fr D (.dK accv)) i w2 H2 g2 rfl l2 R2 hlt, fun H3 => ∃ g3 acc accv w3, g1.le g3 ∧ RepK X.K g3 accv acc ∧ acc.length ≤ i + 1 ∧ Rel X.K (c1.fr D (.dK accv)) g3 w3 H3 ∧ Pv (i + 1) acc w3, fun H3 ⟨g3, acc3, accv3, w3, z⟩ =>
      ⟨items.length - (i + 1), by omega, rfl, hlt, g3, acc3, accv3, w3, z⟩, fun x H' y => ?_⟩
    have hx : items[i]? = some items[i] := by simp [hlt]
    obtain ⟨g3, l3, R3, r3, _⟩ := it.yld (c1.fr D (.dK accv)) i w2 H2 g2 x H' _ rfl l2 R2 hx y
    have e1 : w1.e = c1.e := R1.ex
    have Bm : Bx X.K W0 (c1.fr D (.dK accv)).mute g3 (wipeD env vs) w2.mute (wipe σ vs) H' := ⟨R3.mute, (B.E.le ((l1.trans l2).trans l3)).wipe vs, fun _ _ _ _ _ _ _ _ px => by
      obtain ⟨_, _, _, _, _, _, _, z, _⟩ := px
      exact z⟩
    refine ⟨_, g3, _, _, _, _, Bm, r3, hstep i _ acc w2 hx ha p, fun env4 w4 σ4 H4 g4 l4 B4 s4 q4 => ⟨?_, ?_⟩⟩
    · have e := s4 vs hsl
      rw [e]
      have ww : ∀ us : List Nat, (∀ i ∈ us, i ∈ vs) → wipe (wipe σ vs) us = wipe σ vs := by
        intro us
        induction us with
        | nil => intro _; rfl
        | cons u us ih =>
          intro hu
          show (wipe (wipe σ vs) us).set u Option.none = wipe σ vs
          rw [ih fun i hi => hu i (List.mem_cons_of_mem _ hi)]
          have hm := hu u List.mem_cons_self
          have key : ∀ ws : List Nat, u ∈ ws → (wipe σ ws).set u none = wipe σ ws := by
            intro ws
            induction ws with
            | nil => intro h; cases h
            | cons v ws ih2 =>
              intro h
              unfold wipe
              by_cases e : u = v
              · subst e; rw [List.set_set]
              · rw [List.set_comm _ _ (Ne.symm e), ih2 ((List.mem_cons.mp h).resolve_left e)]
          exact key vs hm
      exact ww vs fun _ h => h
    · refine bindT B4 q4 fun b H5 g5 w5 l5 B5 q5 => ?_
      have c3 : ∀ {g' : Gh} {w' : W} {H' : Hp}, Rel X.K (c1.fr D (.dK accv)).mute g' w' H' → Rel X.K (c1.fr D (.dK accv)) g' (w'.as w1) H' := fun R => R.unmute e1
      cases b with
      | true =>
        refine iteT (bindE B5 q5 fun yv H6 g6 w6 y l6 B6 r6 q6 => bindE B6 q6 fun zv H7 g7 w7 z l7 B7 r7 q7 => ?_)
        obtain ⟨k, hk, q8⟩ := q7
        have R7 := c3 B7.R
        have l37 := ((((l3.trans l4).trans l5).trans l6).trans l7)
        refine ⟨accv, k, (r6.key hk).1, (R7.frm D _ upd_same).1, by have := r2.length; omega, g7, putD acc k z, putK accv k zv, w7.as w1, l2.trans l37, RepK.put r7 (r2.le l37), by have := putD_len acc k z; omega, R7.writeF, q8⟩
      | false => exact iteF ⟨g5, acc, accv, w5.as w1, ((l2.trans l3).trans l4).trans l5, r2.le ((l3.trans l4).trans l5), by omega, c3 B5.R, q5⟩
  · have e : i = items.length := by omega
    subst e
    exact .inl ⟨it.stop (c1.fr D (.dK accv)) w2 H2 g2 rfl l2 R2, lk.out (l1.trans l2) l2 k (hfin c1 g2 w2 H2 D accv acc Q R2 hF r2 (hd acc w2 p))⟩
section
variable {X : Cx} {Wv : WX} {kx vx tg iter : Expr} {ifs : List Expr} {scope : Scope} {own : List (Str × Nat)} {sl : List Nat} {pos : Pos} {ti : DTI} {gd : DTG} {tt : DTT} {tk te : DTE} {fin : List (Key × D) → W → DK → Prop}
theorem de_dcG (hfin : FinDOk X.K fin) (hc : X.calm = true) (hN : X.N.Nodup) (hi : DI X Wv tg iter ti) (ok : blkC X.N X.env.scope scope own = true)
    (hg : ∀ (s : Shared) (H : Hp) (C : Addr) (cl : List (Str × Addr)) (fp : List Addr), DG (X.blk s H scope (compEnvC scope cl C X.env) fp) W0 tg sl gd)
    (ht : ∀ (s : Shared) (H : Hp) (C : Addr) (cl : List (Str × Addr)) (fp : List Addr), DTs (X.blk s H scope (compEnvC scope cl C X.env) fp) W0 ifs tt)
    (hk : ∀ (s : Shared) (H : Hp) (C : Addr) (cl : List (Str × Addr)) (fp : List Addr), DE (X.blk s H scope (compEnvC scope cl C X.env) fp) W0 kx tk)
    (he : ∀ (s : Shared) (H : Hp) (C : Addr) (cl : List (Str × Addr)) (fp : List Addr), DE (X.blk s H scope (compEnvC scope cl C X.env) fp) W0 vx te) (hsl : (sl.all fun i => (own.map (·.2)).contains i) = true := by rfl) (hs : ∀ x, foldedSetIterable iter X.env x = pure x := by intro _; rfl) :
    DE X Wv (.DictComp kx vx [⟨tg, iter, ifs, 0⟩] scope pos) (dDcG fin ti gd tt tk te (own.map (·.2))) :=
  ⟨PE_imp (pe_unl (pe_dc hc hN hi.pi (blkOk_by ok) (fun s H C cl fp => (hg s H C cl fp).pg) (fun s H C cl fp => (ht s H C cl fp).pts) (fun s H C cl fp => (hk s H C cl fp).pe) (fun s H C cl fp => (he s H C cl fp).pe) hs)) fun σ H Qv h => dc_lift hfin (fun i hi => by simpa using List.all_eq_true.mp hsl i hi) h⟩
end
end DL
namespace DL
open PySem PySem.Spec PyProof.Rows L2
section
variable {X : Cx}
def SetX (X : Cx) (a : Addr) (xs : List Str) : HO := .ext fun h => ∃ m, SetS X.prog X.w h a (memT xs xs.length) m
def rSetT (X : Cx) : List V → Hp → VK → Prop := fun vs H Q => ∃ a xs, vs = [.ref a] ∧ (SqL X.K H a (xs.map V.str) ∨ SqT X.K H a (xs.map V.str)) ∧ xs.length + 1 < scanBound ∧ ∀ p, H p = none → Q (.ref p) (upd H p (SetX X p xs))
theorem cr_setT (hc : X.calm = true) : CallR X (.type "set") (rSetT X) := by
  intro pins s σ H vs us Q I r h
  obtain ⟨a, xs, rfl, hs, few, q⟩ := h
  rw [Vals.ref1 r]
  have fin : ∀ (h' : Heap) (tk m : Nat), SetS X.prog X.w h' s.heap.objs.size (memT xs xs.length) m → (∀ b o, s.heap.get? b = some o → h'.get? b = some o) → EP X pins σ Q (.ref s.heap.objs.size) { s with heap := h', toks := tk } := by
    intro h' tk m R k
    obtain ⟨ob, _, _, _, eo, _⟩ := id R
    exact ⟨.ref _, upd H s.heap.objs.size (SetX X s.heap.objs.size xs), I.laid (t' := tk) k (Nat.le_refl _) ⟨⟨m, R⟩, ⟨ob, eo⟩, fun h1 h2 ⟨m, p⟩ k => ⟨m, p.keep k⟩⟩, rfl, q _ (I.hok.fresh (Nat.le_refl _))⟩
  rcases hs with hs | hs
  · obtain ⟨its, rv, hl, _⟩ := I.list hs
    exact set_of_list (I.ok.hd hc) hl.isList rv.strs few fin
  · obtain ⟨its, rv, ⟨o, e, c, n, d⟩, _⟩ := I.tuple hs
    exact set_of_tuple (I.ok.hd hc) ⟨o, e, c, n, d⟩ rv.strs few fin
theorem srt_done {pins : List (Addr × Obj)} {σ : St} {H : Hp} {s s' : Shared} {Q : VK} {p : Addr} {out : Array Value} {c : Nat} {ys : List Str} (I : Inv X pins σ H s) (k : ∀ b o, s.heap.get? b = some o → s'.heap.get? b = some o) (g : s'.gens = s.gens) (o : s'.os = s.os)
    (hp : Nw s.heap p) (hg : s'.heap.get? p = some (seqObj "list" out c)) (hi : StrsAre out.toList ys) (hz : ys.length ≤ sizeLine) (q : Q (.ref p) (upd H p (.lst (ys.map V.str)))) : EP X pins σ Q (.ref p) s' := by
  obtain ⟨h1, k1, l1⟩ := hp
  have hn : H p = none := (I.hok.kept k1).fresh l1
  have h0 : s.heap.get? p = none := by
    cases e : s.heap.get? p with
    | none => rfl
    | some o => exact absurd (Nat.lt_of_lt_of_le (Heap.lt_size (k1 _ _ e)) l1) (Nat.lt_irrefl _)
  have hlen : (ys.map V.str).length ≤ sizeLine := by rw [List.length_map]; exact hz
  have J : Inv X pins σ (upd H p (.lst (ys.map V.str))) { s with heap := s'.heap, gens := s'.gens, drawn := s'.drawn, toks := s'.toks } :=
    I.call (ch := []) (Un.laidN k h0 hn) (I.hok.laidN k hn ⟨hlen, out.toList, c, vals_of_strs hi, hg⟩) (by rw [g]; exact I.bare) (fun _ z => nomatch z)
  have e : s' = { s with heap := s'.heap, gens := s'.gens, drawn := s'.drawn, toks := s'.toks } := by
    cases s'; cases s; cases o; rfl
  rw [e]
  exact ⟨.ref p, _, J, rfl, q⟩
theorem nubT_len (xs : List Str) : (nubT xs).length ≤ xs.length := by
  induction xs with
  | nil => exact Nat.le_refl _
  | cons x r ih =>
    unfold nubT
    split
    · exact Nat.le_succ_of_le ih
    · exact Nat.succ_le_succ ih
theorem sortT_len (xs : List Str) : (sortT xs).length = xs.length := (sortT_perm xs).length_eq
def rSortSet (X : Cx) : List V → Hp → VK → Prop := fun vs H Q => ∃ p xs, vs = [.ref p] ∧ H p = some (SetX X p xs) ∧ xs.length ≤ sizeLine ∧ ∀ q, H q = none → Q (.ref q) (upd H q (.lst ((sortT (nubT xs)).map V.str)))
theorem cr_sortSet (hc : X.calm = true) (hu : X.A.units + 8 < cLine) : CallR X (.builtin "sorted") (rSortSet X) := by
  intro pins s σ H vs us Q I r h
  obtain ⟨a, xs, rfl, ha, hz, q⟩ := h
  obtain ⟨m, R⟩ := (I.hok a _ ha).1
  rw [Vals.ref1 r]
  exact sorted_setS R (fun y => memT_all) (I.ok.hd hc) hz hu fun s' p out c k g o hp hg hi => srt_done I k g o hp hg hi (by rw [sortT_len]; exact Nat.le_trans (nubT_len xs) hz) (q p (let ⟨_, k1, l1⟩ := hp; (I.hok.kept k1).fresh l1))
def rSortLT (X : Cx) : List V → Hp → VK → Prop := fun vs H Q => ∃ a xs, vs = [.ref a] ∧ SqL X.K H a (xs.map V.str) ∧ ∀ q, H q = none → Q (.ref q) (upd H q (.lst ((sortT xs).map V.str)))
open PySem.W in
theorem cr_sortLT (hu : X.A.units + 8 < cLine) : CallR X (.builtin "sorted") (rSortLT X) := by
  intro pins s σ H vs us Q I r h
  obtain ⟨a, xs, rfl, hs, q⟩ := h
  rw [Vals.ref1 r]
  obtain ⟨its, rv, hl, hz⟩ := I.list hs
  rw [List.length_map] at hz
  have ev := each_of_strs rv.strs
  refine sorted_data (enc := fun b : Str => PyData.str b) (R := fun v b => ∃ t, v = Value.str b t) hl.isList ev (ev.mono fun v b ⟨t, e⟩ => ⟨[], by subst e; exact .str b t⟩) (.of fun _ _ => rfl) (.others fun b => ⟨fun z => (by cases z), fun xs z => (by cases z)⟩) hz
    (fun b _ => by show X.A.units + 2 + 0 < cLine; omega) fun out lo eo => ?_
  obtain ⟨ep, he⟩ := sortedAll_at s.heap its out.toArray
  have z := strs_of_each eo
  rw [leT_data] at z
  have hlen : ((sortT xs).map V.str).length ≤ sizeLine := by rw [List.length_map, sortT_len]; exact hz
  exact ⟨.ref _, upd H (s.heap.objs.size + 1) (.lst ((sortT xs).map V.str)), I.laid (t' := s.toks) (fun _ _ => sortedAll_old) (Nat.le_succ _) ⟨hlen, out, ep, vals_of_strs z, he⟩, rfl, q _ (I.hok.fresh (Nat.le_succ _))⟩
def rSortDK (_ : Cx) : List V → Hp → VK → Prop := fun vs H Q => ∃ a kvs xs, vs = [.ref a] ∧ Rd H a (.dK kvs) ∧ kvs.map (·.1) = xs.map Sum.inr ∧ ∀ q, H q = none → Q (.ref q) (upd H q (.lst ((sortT xs).map V.str)))
theorem cr_sortDK (hc : X.calm = true) (hu : X.A.units + 8 < cLine) : CallR X (.builtin "sorted") (rSortDK X) := by
  intro pins s σ H vs us Q I r h
  obtain ⟨a, kvs, xs, rfl, hd, hk, q⟩ := h
  rw [Vals.ref1 r]
  obtain ⟨z, lo, es, rel, dd⟩ := dk_rd I.hok hd
  obtain ⟨ep, hat⟩ := dd.dictAt
  have hl : xs.length = kvs.length := by simpa using (congrArg List.length hk).symm
  have ek : (xs.map V.str) = es.map fun p => kV p.1 := by
    have e2 : kvs.map (·.1) = es.map (·.1) := rel.keys
    have e3 := congrArg (List.map kV) (hk.symm.trans e2)
    rw [List.map_map, List.map_map] at e3
    exact e3
  refine sorted_texts (xs := xs) (by rw [hl]; exact z) hu (fun Q1 h1 => ?_) fun s' p out c k g o hp hg hi => srt_done I k g o hp hg hi (by rw [sortT_len, hl]; exact z) (q p (let ⟨_, k1, l1⟩ := hp; (I.hok.kept k1).fresh l1))
  refine PySem.W.kdu_collect (PySem.W.kdl_dict (knd := mixKind X.prog X.w) (kvs := es) (ep := ep) lo) (I.ok.hd hc) hat (by rw [← rel.length]; exact z) fun h' tk acc hk' hacc => ?_
  have hv : Vals (es.map fun p => kV p.1) acc.toList := keys_at (by rw [Array.length_toList]; exact hacc.1) fun j v e => hacc.2 j v (by rw [← Array.getElem?_toList]; exact e)
  rw [← ek] at hv
  exact h1 _ _ xs hk' rfl rfl hv.strs (.refl _)
end
end DL
namespace DL
open PySem PySem.Spec PyProof.Rows L2
def textsIn (x : D) (w : W) (ss : List Str) : Prop := match x with
  | .lst xs => strsOf xs = some ss
  | .tup xs => strsOf xs = some ss
  | .ref p => ∃ xs, w.m p = some (.lst xs) ∧ strsOf xs = some ss
  | _ => False
theorem textsIn_v {K : PySem.W.Frag} {c : Ck} {g : Gh} {w : W} {H : Hp} {v : V} {x : D} {ss : List Str} (R : Rel K c g w H) (r : Rep K g v x) (h : textsIn x w ss) : ∃ a, v = .ref a ∧ (SqL K H a (ss.map V.str) ∨ SqT K H a (ss.map V.str)) := by
  cases r with
  | lst s r =>
    have e := r.strs h
    subst e
    exact ⟨_, rfl, .inl (R.sqL s)⟩
  | tup s r =>
    have e := r.strs h
    subst e
    exact ⟨_, rfl, .inr (R.sqT s)⟩
  | ref p =>
    obtain ⟨xs, em, e⟩ := h
    obtain ⟨vs, e1, r⟩ := R.mlst em
    have e := r.strs e
    subst e
    exact ⟨_, rfl, .inl (SqL.of e1)⟩
  | _ => exact False.elim h
theorem repStrs {K : PySem.W.Frag} {g : Gh} : ∀ ss : List Str, RepL K g (ss.map V.str) (ss.map D.str)
  | [] => .nil
  | x :: r => .cons (.str x) (repStrs r)
def dSortSet (t : DTE) : DTE := fun env w Q => t env w fun x w1 => ∃ ss, textsIn x w1 ss ∧ ss.length + 1 < scanBound ∧ Q (.lst ((sortT (nubT ss)).map .str)) w1
section
variable {X : Cx} {Wv : WX} {e : Expr} {t : DTE} {p p2 pos pos2 : Pos}
theorem scan_size {n : Nat} (h : n + 1 < scanBound) : n ≤ sizeLine := by
  rw [sizeLine_eq]
  unfold scanBound at h
  omega
theorem de_sortSet (hc : X.calm = true) (hu : X.A.units + 64 < cLine) (h1 : X.mg "sorted" = none) (h2 : X.mg "set" = none) (he : DE X Wv e t) (g1 : Gl X "sorted" := by rfl) (g2 : Gl X "set" := by rfl)
    (v1 : bootBuiltins "sorted" = some (.builtin "sorted") := by decide +kernel) (v2 : bootBuiltins "set" = some (.type "set") := by decide +kernel)
    (s1 : starEach [.Call (.Name "set" p2) [e] [] pos2] X.env = (false, eval (.Call (.Name "set" p2) [e] [] pos2) X.env) :: starEach [] X.env := by rfl) (s2 : starEach [e] X.env = (false, eval e X.env) :: starEach [] X.env := by rfl)
    (b1 : (backTo pos (starEach [] X.env)).any (·.1) = false := by rfl) (b2 : (backTo pos2 (starEach [] X.env)).any (·.1) = false := by rfl) :
    DE X Wv (.Call (.Name "sorted" p) [.Call (.Name "set" p2) [e] [] pos2] [] pos) (dSortSet t) :=
  ⟨PE_imp (pe_callB (cr_sortSet hc (by omega)) g1 h1 v1 (pa_cons (pe_callTy (cr_setT hc) g2 h2 v2 (pa_cons he.pe pa_nil s2) (by decide) (by decide) s2 b2) pa_nil s1) (by decide) (by decide) s1 b1) fun σ H Qv ⟨c, g, env, w, Q, B, q, k⟩ =>
    bindE B q fun v H1 g1 w1 x l1 B1 r1 ⟨ss, hs, few, q1⟩ => by
      obtain ⟨a, rfl, hq⟩ := textsIn_v B1.R r1 hs
      exact ⟨a, ss, rfl, hq, few, fun p hp => ⟨p, ss, rfl, upd_same, scan_size few, fun q hq2 =>
        newL (B1.R.other hp) (repStrs _) q1 (fun v H' z => k v H' (z.up l1)) q hq2⟩⟩⟩
def sortR : DRC := fun xs w Q => match xs with
  | [.lst ds] => ∃ ss, strsOf ds = some ss ∧ Q (.lst ((sortT ss).map .str)) w
  | [.dic kvs] => ∃ ss, kvs.map (·.1) = ss.map Sum.inr ∧ Q (.lst ((sortT ss).map .str)) w
  | [.ref p] => (∃ ds ss, w.m p = some (.lst ds) ∧ strsOf ds = some ss ∧ Q (.lst ((sortT ss).map .str)) w) ∨ ∃ kvs ss, w.m p = some (.dic kvs) ∧ kvs.map (·.1) = ss.map Sum.inr ∧ Q (.lst ((sortT ss).map .str)) w
  | _ => False
theorem Rel.rdK {K : PySem.W.Frag} {c : Ck} {g : Gh} {w : W} {H : Hp} {a : Addr} {xs : List (Key × V)} (R : Rel K c g w H) (s : g.G a = some (.dK xs)) : Rd H a (.dK xs) := by
  rcases R.imm a _ s with ⟨_, h⟩ | ⟨o, _, h⟩
  · exact .inl h
  · exact .inr ⟨o, h⟩
theorem cd_sorted (hc : X.calm = true) (hu : X.A.units + 64 < cLine) : CallD X (.builtin "sorted") sortR := by
  refine ⟨_, CallR_or (cr_sortLT (by omega)) (cr_sortDK hc (by omega)), fun c g w H vs ds Q Qv R r q k => ?_⟩
  unfold sortR at q
  split at q
  · obtain ⟨v, rfl, a⟩ := r.one
    obtain ⟨ss, e, q⟩ := q
    cases a with
    | lst s r =>
      have z := r.strs e
      subst z
      exact .inl ⟨_, ss, rfl, R.sqL s, fun p hp => newL R (repStrs _) q k p hp⟩
  · obtain ⟨v, rfl, a⟩ := r.one
    obtain ⟨ss, e, q⟩ := q
    cases a with
    | dic s r => exact .inr ⟨_, _, ss, rfl, R.rdK s, r.keys.trans e, fun p hp => newL R (repStrs _) q k p hp⟩
  · obtain ⟨v, rfl, a⟩ := r.one
    cases a
    rcases q with ⟨xs, ss, em, e, q⟩ | ⟨kvs, ss, em, e, q⟩
    · obtain ⟨vs, e1, r⟩ := R.mlst em
      have z := r.strs e
      subst z
      exact .inl ⟨_, ss, rfl, SqL.of e1, fun p hp => newL R (repStrs _) q k p hp⟩
    · obtain ⟨vs, e1, r⟩ := R.mdic em
      exact .inr ⟨_, _, ss, rfl, .inl e1, r.keys.trans e, fun p hp => newL R (repStrs _) q k p hp⟩
  · exact q.elim
theorem newK {K : PySem.W.Frag} {c : Ck} {g : Gh} {w : W} {H : Hp} {xs : List (Key × V)} {ds : List (Key × D)} {Q : DK} {Qv : VK} (R : Rel K c g w H) (r : RepK K g xs ds) (q : Q (.dic ds) w) (k : ∀ v H', PQ K c g Q v H' → Qv v H') (p : Addr) (hp : H p = none) : Qv (.ref p) (upd H p (.dK xs)) := by
  have l := Gh.add_le (o := .dK xs) (R.noG hp)
  exact k _ _ ⟨_, w, .dic ds, l, R.alloc hp, .dic Gh.add_at (r.le l), q⟩
theorem newKM {K : PySem.W.Frag} {c : Ck} {g : Gh} {w : W} {H : Hp} {xs : List (Key × V)} {ds : List (Key × D)} {Q : DK} {Qv : VK} (R : Rel K c g w H) (r : RepK K g xs ds) (q : ∀ p, w.m p = none → Q (.ref p) (w.put p (.dic ds))) (k : ∀ v H', PQ K c g Q v H' → Qv v H') (p : Addr) (hp : H p = none) : Qv (.ref p) (upd H p (.dK xs)) :=
  k _ _ ⟨g, _, .ref p, .rfl, R.allocM hp (.dic r), .ref p, q p (R.noM hp)⟩
def pairsOf : List D → Option (List (Key × D))
  | [] => some []
  | .tup [k, d] :: r => (keyOf k).bind fun q => (pairsOf r).map ((q, d) :: ·)
  | _ => none
def dictIn (x : D) (w : W) (kvs : List (Key × D)) : Prop := match x with
  | .dic xs => kvs = xs
  | .lst xs => ∃ ps, pairsOf xs = some ps ∧ kvs = mergeD [] ps
  | .ref p => w.m p = some (.dic kvs)
  | _ => False
def dictR : DRC := fun xs w Q => match xs with
  | [x] => ∃ kvs, dictIn x w kvs ∧ Q (.dic kvs) w
  | _ => False
def dictMR : DRC := fun xs w Q => match xs with
  | [x] => ∃ kvs, dictIn x w kvs ∧ ∀ p, w.m p = none → Q (.ref p) (w.put p (.dic kvs))
  | _ => False
theorem RepL.pairs {K : PySem.W.Frag} {c : Ck} {g : Gh} {w : W} {H : Hp} (R : Rel K c g w H) : ∀ {vs : List V} {ds : List D} {ps : List (Key × D)}, RepL K g vs ds → pairsOf ds = some ps →
    ∃ (as : List Addr) (kvs : List (Key × V)), vs = as.map V.ref ∧ Paired (fun p kv => SqT K H p [kV kv.1, kv.2]) as kvs ∧ RepK K g kvs ps
  | _, _, _, .nil, e => by cases e; exact ⟨[], [], rfl, .nil, .nil⟩
  | _, _, _, @RepL.cons _ _ v vs d ds a r, e => by
    cases a with
    | @tup b us es s rr =>
      cases rr with
      | nil => simp [pairsOf] at e
      | @cons v1 us k es a1 rr => cases rr with
        | nil => simp [pairsOf] at e
        | @cons v2 us d2 es a2 rr => cases rr with
          | cons _ _ => simp [pairsOf] at e
          | nil =>
            have e' : ((keyOf k).bind fun q => (pairsOf ds).map ((q, d2) :: ·)) = some _ := e
            cases hk : keyOf k with
            | none => rw [hk] at e'; cases e'
            | some q =>
              rw [hk] at e'
              cases hp : pairsOf ds with
              | none => rw [hp] at e'; cases e'
              | some ps =>
                rw [hp] at e'; cases e'
                obtain ⟨as, kvs, e1, e2, e3⟩ := RepL.pairs R r hp
                obtain ⟨ek, _⟩ := a1.key hk
                subst ek
                exact ⟨b :: as, (q, v2) :: kvs, by rw [e1]; rfl, .cons (R.sqT s) e2, .cons a2 e3⟩
    | _ => simp [pairsOf] at e
theorem cd_dict0 (hc : X.calm = true) {Fin : List (Key × D) → W → DK → Prop} (fin : ∀ {c : Ck} {g : Gh} {w : W} {H : Hp} {xs : List (Key × V)} {ds : List (Key × D)} {Q : DK} {Qv : VK}, Rel X.K c g w H → RepK X.K g xs ds → Fin ds w Q → (∀ v H', PQ X.K c g Q v H' → Qv v H') → ∀ p, H p = none → Qv (.ref p) (upd H p (.dK xs))) :
    CallD X (.type "dict") fun xs w Q => match xs with
      | [x] => ∃ kvs, dictIn x w kvs ∧ Fin kvs w Q
      | _ => False := by
  refine ⟨_, CallR_or call_dictD (call_dictP hc), fun c g w H vs ds Q Qv R r q k => ?_⟩
  dsimp only at q
  split at q
  · obtain ⟨v, rfl, a⟩ := r.one
    obtain ⟨kvs, e, q⟩ := q
    cases a with
    | dic s rr =>
      cases e
      exact .inl ⟨_, _, rfl, R.rdK s, fin R rr q k⟩
    | lst s rr =>
      obtain ⟨ps, e1, rfl⟩ := e
      obtain ⟨as, zs, e0, e2, e3⟩ := rr.pairs R e1
      subst e0
      exact .inr ⟨_, as, zs, rfl, R.sqL s, e2, fin R (RepK.merge e3 .nil) q k⟩
    | ref p =>
      obtain ⟨vs, e1, rr⟩ := R.mdic e
      exact .inl ⟨_, _, rfl, .inl e1, fin R rr q k⟩
    | _ => exact False.elim e
  · exact q.elim
theorem cd_dict (hc : X.calm = true) : CallD X (.type "dict") dictR := cd_dict0 hc newK
theorem cd_dictM (hc : X.calm = true) : CallD X (.type "dict") dictMR := cd_dict0 hc newKM
def strR : DRC := fun xs w Q => match xs with
  | [.int i] => i.natAbs.log2 < 1920 ∧ Q (.str (toString i)) w
  | _ => False
theorem cd_str : CallD X (.type "str") strR := by
  refine ⟨_, call_str_int, fun c g w H vs ds Q Qv R r q k => ?_⟩
  unfold strR at q
  split at q
  · obtain ⟨v, rfl, a⟩ := r.one
    cases a
    exact ⟨_, rfl, q.1, k _ _ ⟨g, w, _, .rfl, R, .str _, q.2⟩⟩
  · exact q.elim
end
end DL
namespace DL
open PySem PySem.Spec PyProof.Rows L2
structure FnMe (K : PySem.W.Frag) (n m qual : Str) (st : Stmt) (ps : List Str) : Prop where
  ex : ∃ C f fd, ClsAt K n C ∧ Cls K C ∧ Meth K C m f ∧ Fun K m qual st f fd ∧ Binds K fd ps []
structure FnMk (K : PySem.W.Frag) (mg : Str → Option Value) (n qual : Str) (st : Stmt) (ps : List Str) : Prop where
  ex : ∃ C f fd, ClsAt K n C ∧ Mk K C f ∧ mg n = some (.ref C) ∧ Fun K "__init__" qual st f fd ∧ Binds K fd ps []
section
variable {K : PySem.W.Frag} {h : Heap} {mg : Str → Option Value} {C f : Addr} {R : Prop} {oc : Value} {od an : Option Addr} {osl : Array (Option Value)} {kV doc pm cdv ct : Value}
theorem Cl.ofC (n : Str) (X : K.In h) (G : h.Ns mainGlobals mg) (a : PySem.W.nsIn K mainGlobals n = some (some (.ref C))) (pg : PySem.W.plainGet K C Str.empty = true) (hd : PySem.W.hasDictIn K C = true) (po : PySem.W.plainOver K C = true)
    (sa : PySem.W.findIn K (.ref C) "__setattr__" = some (some (.builtin "object.__setattr__"))) (r : ClsAt K n C → Cls K C → mg n = some (.ref C) → R) : R := r a ⟨pg, hd, po, sa⟩ (PySem.W.mg_of X G a)
theorem FnMe.ofC (n m qual : Str) (st : Stmt) (ps : List Str) (kC : ClsAt K n C) (hC : Cls K C)
    (hb : ∀ (kV doc pm : Value) (an : Option Addr) (cdv ct : Value) (us : List Value), us.length = ps.length → bindArgs (PySem.W.fnOf m qual (defArgs st) (defBody st) (defScope st) .none kV doc pm an cdv ct) ⟨us, []⟩ = pure (ps.zip us))
    (a : PySem.W.findIn K (.ref C) m = some (some (.ref f))) (i : PySem.W.isFn K (.ref f) = true) (l : K.lookup f = some ⟨oc, od, .func (PySem.W.fnOf m qual (defArgs st) (defBody st) (defScope st) .none kV doc pm an cdv ct), osl⟩)
    (c : PySem.W.codeIn K cdv qual = true) (k : PySem.W.keepIn K (.ref f) = true) (r : FnMe K n m qual st ps → R) : R := by
  have F := fun_mk (st := st) l c k
  exact r ⟨⟨C, f, _, kC, hC, ⟨a, i, k⟩, F, F.binds hb⟩⟩
theorem FnMk.ofC (n qual : Str) (st : Stmt) (ps : List Str) (kC : ClsAt K n C) (hm : mg n = some (.ref C))
    (hb : ∀ (kV doc pm : Value) (an : Option Addr) (cdv ct : Value) (us : List Value), us.length = ps.length → bindArgs (PySem.W.fnOf "__init__" qual (defArgs st) (defBody st) (defScope st) .none kV doc pm an cdv ct) ⟨us, []⟩ = pure (ps.zip us))
    (mk : PySem.W.makesIn K C = true) (kp : PySem.W.keepIn K (.ref C) = true)
    (a : PySem.W.findIn K (.ref C) "__init__" = some (some (.ref f))) (i : PySem.W.isFn K (.ref f) = true) (l : K.lookup f = some ⟨oc, od, .func (PySem.W.fnOf "__init__" qual (defArgs st) (defBody st) (defScope st) .none kV doc pm an cdv ct), osl⟩)
    (c : PySem.W.codeIn K cdv qual = true) (k : PySem.W.keepIn K (.ref f) = true) (r : FnMk K mg n qual st ps → R) : R := by
  have F := fun_mk (st := st) l c k
  exact r ⟨⟨C, f, _, kC, ⟨mk, a, i, kp⟩, hm, F, F.binds hb⟩⟩
theorem thenT {T : PySem.W.Frag → Prop} {R : Prop} (_ : K.In h) (t : T K) (r : T K → R) : R := r t
theorem Fld.of {n g : Str} (kC : ClsAt K n C) (hC : Cls K C) (e : PySem.W.findIn K (.ref C) g = some none) : Fld K n g := ⟨⟨C, kC, hC, e⟩⟩
end
end DL
namespace DL
open PySem PySem.Spec PyProof.Rows L2
section
variable {X : Cx} {Wv : WX} {e : Expr} {te : TE} {t : DTE} {p pos apos cpos : Pos}
end
end DL
namespace DL
open PySem PySem.Spec PyProof.Rows L2
def iAny (K : PySem.W.Frag) (te : TE) : TI := fun σ H R => te σ H fun x H1 => (∃ a xs, x = .ref a ∧ SqL K H1 a xs ∧ R (Itl K a) H1) ∨ (∃ a xs, x = .ref a ∧ SqT K H1 a xs ∧ R (Itt K a) H1) ∨ (∃ z, x = .str z ∧ R (Its z) H1) ∨
  ∃ d o kvs, x = .ref d ∧ H1 d = some (.frz o (.dK kvs)) ∧ R (Itk d o kvs) H1
theorem pi_any {X : Cx} {tg e : Expr} {te : TE} (he : PE X e te) : PI X tg e (iAny X.K te) := by
  refine ⟨fun pins s σ H R I h => thn (he.run pins s σ H _ I h) fun u s1 ⟨x, H1, I1, rx, q⟩ => ?_⟩
  rcases q with ⟨a, xs, rfl, hq, q⟩ | ⟨a, xs, rfl, hq, q⟩ | ⟨z, rfl, q⟩ | ⟨d, o, kvs, rfl, hd, q⟩
  · cases rx
    obtain ⟨its, rv, p, hz⟩ := I1.list hq
    exact wpAny_pyIter_list p.isList (pi_one (tk := s1.toks) I1 _ (turn_list a _) ⟨_, Heap.get?_push_size _ rfl, rfl, rfl⟩ q)
  · cases rx
    obtain ⟨its, rv, p, hz⟩ := I1.tuple hq
    exact wpAny_pyIter_tuple (items := its.toArray) p (pi_one (tk := s1.toks) I1 _ (turn_tuple a _) ⟨_, Heap.get?_push_size _ rfl, rfl, rfl⟩ q)
  · obtain ⟨t, rfl⟩ := rx
    by_cases ha : z.cps.all (· < 128) = true
    · exact wpAny_pyIter_ascii ha (pi_one (tk := s1.toks) I1 _ (turn_str _ z t "str_ascii_iterator" (.inl rfl)) ⟨_, Heap.get?_push_size _ rfl, rfl, rfl⟩ q)
    · exact wpAny_pyIter_wide (by simpa using ha) (pi_one (tk := s1.toks) I1 _ (turn_str _ z t "str_iterator" (.inr rfl)) ⟨_, Heap.get?_push_size _ rfl, rfl, rfl⟩ q)
  · cases rx
    obtain ⟨hs, hgd, hx, es, ep, vs, hdt, hsz, kv, hm⟩ := I1.frzK hd
    refine iter_keys hs hgd hx hdt (pi_one (tk := s1.toks) I1 _ (turn_keys _ hdt) ⟨_, Heap.get?_push_size _ rfl, rfl, ?_⟩ q)
    rw [hsz] <;> rfl
def itemsOf (x : D) (w : W) (Q : List D → W → Prop) : Prop := match x with
  | .lst xs => Q xs w
  | .tup xs => Q xs w
  | .str z => Q (signs z) w
  | .dic kvs => Q (dkeys kvs) w
  | _ => False
def dItA (t : DTE) : DTI := fun env w Q => t env w fun x w1 => itemsOf x w1 Q
theorem di_any {X : Cx} {Wv : WX} {tg e : Expr} {t : DTE} (h : DE X Wv e t) : DI X Wv tg e (dItA t) :=
  ⟨PI_imp (pi_any (pe_lk h.pe)) fun σ H Rv ⟨c, g, env, w, Q, B, q, k⟩ => bindE B q fun v H1 g1 w1 x l1 B1 r1 q1 => by
    cases r1 with
    | lst s r => exact .inl (.inl ⟨_, _, rfl, B1.R.sqL s, k _ w1 _ g1 _ _ l1 (.inl rfl) B1.R (isIt_list s r) q1⟩)
    | tup s r => exact .inl (.inr (.inl ⟨_, _, rfl, B1.R.sqT s, k _ w1 _ g1 _ _ l1 (.inl rfl) B1.R (isIt_tup s r) q1⟩))
    | str z => exact .inl (.inr (.inr (.inl ⟨_, rfl, k _ w1 _ g1 _ _ l1 (.inl rfl) B1.R isIt_str q1⟩)))
    | @dic a xs ds s r =>
      rcases B1.R.imm a _ s with ⟨hL, hH⟩ | ⟨o, hL, hH⟩
      · exact .inr ⟨a, _, hH, trivial, fun od nf => .inr (.inr (.inr ⟨a, od, xs, rfl, upd_same, k _ w1 _ g1 _ _ l1 (.inr ⟨a, od, xs, hL, s, rfl, nf⟩) (B1.R.lock s) (isIt_keys updL_same s r) q1⟩))⟩
      · exact .inl (.inr (.inr (.inr ⟨a, o, xs, rfl, hH, k _ w1 _ g1 _ _ l1 (.inl rfl) B1.R (isIt_keys hL s r) q1⟩)))
    | _ => exact False.elim q1⟩
end DL
namespace DL
open PySem PySem.Spec PyProof.Rows L2
section
variable {X : Cx} {Wv : WX}
variable {kx vx tg iter : Expr} {ifs : List Expr} {scope : Scope} {own : List (Str × Nat)} {sl : List Nat} {pos : Pos} {ti : DTI} {gd : DTG} {tt : DTT} {tk te : DTE} {fin : List (Key × D) → W → DK → Prop}
end
def dPar (i j : Nat) (t : DTA) : DTS := fun D env w => t env w fun xs w1 => match xs with
  | [a, b] => D.nx ((env.set i (some a)).set j (some b)) w1
  | _ => False
section
variable {X : Cx} {Wv : WX} {i j l : Nat} {x y z : Str} {a b c : Expr} {t : DTA} {px py pz pt pos : Pos} {kt k2 : Nat} {pt2 : Pos}
theorem ds_par (hN : X.N.Nodup) (hc : X.calm = true) (hij : i ≠ j) (ha : DA X Wv [a, b] t) (hi : X.N[i]? = some x := by rfl) (hj : X.N[j]? = some y := by rfl)
    (hx : X.env.scope.names.lookup x = some .local := by rfl) (hy : X.env.scope.names.lookup y = some .local := by rfl)
    (hw : swappedStores [.Tuple [.Name x px, .Name y py] kt pt] (.Tuple [a, b] k2 pt2) X.env = pure (some [x, y]) := by rfl)
    (hs : swapsWithSole [.Tuple [.Name x px, .Name y py] kt pt] (.Tuple [a, b] k2 pt2) pos.line X.env = pure false := by rfl) :
    DS X Wv (.Assign [.Tuple [.Name x px, .Name y py] kt pt] (.Tuple [a, b] k2 pt2) pos) (dPar i j t) :=
  ⟨PS_imp (ps_par hc hN hi hj hij hx hy ha.pa hw hs) fun Dv σ H ⟨c, g, env, w, D, B, q, k⟩ => bindA B q fun vs H1 g1 w1 xs l1 B1 r1 q1 => by
    match xs, r1, q1 with
    | [d1, d2], r1, q1 =>
      obtain ⟨v1, v2, rfl, a1, a2⟩ := r1.two
      exact ⟨v1, v2, rfl, k.nx _ w1 _ H1 g1 l1 (B1.env ((B1.E.set a1).set a2)) q1⟩⟩
end
end DL
namespace DL
open PySem PySem.Spec PyProof.Rows L2
theorem putD_new {κ : Type} [DecidableEq κ] {kvs : List (κ × D)} {k : κ} {v : D} (h : ∀ kv ∈ kvs, kv.1 ≠ k) : putD kvs k v = kvs ++ [(k, v)] := by
  unfold putD
  rw [if_neg]
  intro e
  obtain ⟨kv, hm, e⟩ := List.any_eq_true.mp e
  exact h kv hm (of_decide_eq_true e)
theorem valD_mem {κ : Type} [DecidableEq κ] {kvs : List (κ × D)} {k : κ} {v : D} (h : (k, v) ∈ kvs) : ∃ d, valD kvs k = some d := by
  unfold valD
  cases e : kvs.find? fun kv => decide (kv.1 = k) with
  | some q => exact ⟨_, rfl⟩
  | none => exact absurd (List.find?_eq_none.mp e (k, v) h) (by simp)
theorem valD_in {κ : Type} [DecidableEq κ] {kvs : List (κ × D)} {k : κ} {v : D} (h : valD kvs k = some v) : (k, v) ∈ kvs := by
  unfold valD at h
  cases e : kvs.find? fun kv => decide (kv.1 = k) with
  | none => rw [e] at h; cases h
  | some q =>
    rw [e] at h; cases h
    have m := List.mem_of_find?_eq_some e
    have p : q.1 = k := by simpa using List.find?_some e
    obtain ⟨a, b⟩ := q
    subst p
    exact m
section
variable {items : List D} {gd : DTG} {tt : DTT} {tk te : DTE} {vs : List Nat} {env : En} {w : W} {Q : DK} {fin : List (Key × D) → W → DK → Prop}
theorem dc_map (kf : D → Key) (vf : D → D) (hz : items.length ≤ sizeLine) (hn : (items.map kf).Nodup)
    (h : ∀ x, x ∈ items → ∀ R : Key → D → W → Prop, R (kf x) (vf x) w.mute → gd x (wipeD env vs) w.mute fun env2 w3 => tk env2 w3 fun y w5 => te env2 w5 fun z w6 => ∃ k, keyOf y = some k ∧ R k z w6) (hf : fin (items.map fun x => (kf x, vf x)) w Q) :
    items.length ≤ sizeLine ∧ ∃ Pv : Nat → List (Key × D) → W → Prop, Pv 0 [] w ∧
      (∀ i x acc w2, items[i]? = some x → acc.length ≤ i → Pv i acc w2 → gd x (wipeD env vs) w2.mute fun env2 w3 => dYes env2 w3 fun b w4 => if b = true then tk env2 w4 fun y w5 => te env2 w5 fun z w6 => ∃ k, keyOf y = some k ∧ Pv (i + 1) (putD acc k z) (w6.as w) else Pv (i + 1) acc (w4.as w)) ∧
      ∀ acc w2, Pv items.length acc w2 → fin acc w2 Q := by
  refine ⟨hz, fun i acc w2 => w2 = w ∧ acc = (items.take i).map fun x => (kf x, vf x), ⟨rfl, rfl⟩, ?_, ?_⟩
  · rintro i x acc w2 hx _ ⟨rfl, rfl⟩
    refine h x (List.mem_of_getElem? hx) (fun k z w6 => w6.as w2 = w2 ∧ putD ((items.take i).map fun x => (kf x, vf x)) k z = (items.take (i + 1)).map fun x => (kf x, vf x)) ⟨rfl, ?_⟩
    rw [putD_new, List.take_succ, hx]
    · simp
    · intro kv hm e
      obtain ⟨y, hy, rfl⟩ := List.mem_map.mp hm
      obtain ⟨j, hj, ej⟩ := List.mem_take_iff_getElem.mp hy
      have hi : i < items.length := (List.getElem?_eq_some_iff.mp hx).1
      have ex : items[i] = x := (List.getElem?_eq_some_iff.mp hx).2
      have hji : j < i := by omega
      have q := List.pairwise_iff_getElem.mp hn j i (by simpa using by omega) (by simpa using hi) hji
      apply q
      simp only [List.getElem_map]
      rw [ej, ex]
      exact e
  · rintro acc w2 ⟨rfl, rfl⟩
    rw [List.take_length]
    exact hf
end
end DL
namespace DL
open PySem PySem.Spec PyProof.Rows L2
section
open PySem.SeqAt
open AutoSeq1 (wpAny_loadPart')
open MeetsSeq MeetsSeq2 MeetsSeq3 SeqRoads2
variable {prog : Program} {w : World} {A : Around} {s : Shared}
theorem tupB {R : Result → Shared → Prop} {p q : Addr} {us vs : Array Value} {k1 k2 : Nat} {da db : Option Addr} {la lb : Array (Option Value)} {e : Nat → Bool} (z : us.size = vs.size)
    (hp : s.heap.get? p = some { cls := .type "tuple", dict := da, data := .seq us k1, slots := la }) (hq : s.heap.get? q = some { cls := .type "tuple", dict := db, data := .seq vs k2, slots := lb })
    (he : ∀ j (h1 : j < us.size) (h2 : j < vs.size), EqP prog w A.in1 s us[j] vs[j] (e j)) (hR : R (.ok (.ret (.bool ((List.range us.size).all e)))) s) :
    wpAny (model prog w) A.in1 (Builtin.«tuple.__eq__» ⟨[.ref p, .ref q], []⟩) (GQ.FinOf prog w A R) (fun x s' => R (.error x) s') s := by
  have known := AutoSeq1.sub_tuple_tuple
  obtain ⟨hh, gg, dd, tk, oo⟩ := s
  have zl : (us.toList.zip vs.toList).length = us.size := by simp [z]
  wp_walk using wpAny_loadPart' hp, wpAny_loadPart' hq, wpAny_forIn_list _ (fun rest y t => y.1 = none ∧ t = ⟨hh, gg, dd, tk, oo⟩ ∧ ∃ i, i ≤ us.size ∧ rest = (us.toList.zip vs.toList).drop i ∧
    R (.ok (.ret (.bool (((List.range us.size).drop i).all e)))) ⟨hh, gg, dd, tk, oo⟩) _
  case turn =>
    rintro ⟨u, v⟩ rest y t ⟨_, rfl, i, _, hd, hr⟩
    have lt : i < (us.toList.zip vs.toList).length := Nat.lt_of_not_le fun c => by
      rw [List.drop_of_length_le c] at hd
      cases hd
    have lu : i < us.size := zl ▸ lt
    have lv : i < vs.size := z ▸ lu
    rw [List.drop_eq_getElem_cons lt] at hd
    obtain ⟨h1, h2⟩ := List.cons.inj hd
    obtain rfl : u = us[i] := by have := congrArg Prod.fst h1; simpa using this
    obtain rfl : v = vs[i] := by have := congrArg Prod.snd h1; simpa using this
    have split : (List.range us.size).drop i = i :: (List.range us.size).drop (i + 1) := by
      rw [List.drop_eq_getElem_cons (by simpa using lu)]
      simp
    rw [split, List.all_cons] at hr
    refine wpAny_bind (he i lu lv _ _ ?_)
    cases c : e i with
    | false =>
      rw [c] at hr
      wp_walk
      simpa using hr
    | true =>
      rw [c] at hr
      wp_walk
      exact ⟨rfl, rfl, i + 1, lu, h2, by simpa using hr⟩
  case fin =>
    rintro ⟨y1, y2⟩ t ⟨hy, rfl, i, _, hd, hr⟩
    simp only at hy
    subst hy
    have ge : us.size ≤ i := Nat.le_of_not_lt fun c => by
      rw [List.drop_eq_getElem_cons (zl.symm ▸ c)] at hd
      cases hd
    rw [List.drop_of_length_le (by simpa using ge)] at hr
    wp_walk
    simpa [Builtin.Tuple.tupleCompareSizes, z] using hr
  case h => exact ⟨rfl, rfl, 0, Nat.zero_le _, rfl, by simpa using hR⟩
theorem rc_tupB {p q : Addr} {us vs : Array Value} {e : Nat → Bool} (z : us.size = vs.size) (hu : A.units < cLine) (hp : s.heap.IsTuple p us) (hq : s.heap.IsTuple q vs)
    (he : ∀ j (h1 : j < us.size) (h2 : j < vs.size), EqP prog w A.in1 s us[j] vs[j] (e j)) (E Q : Value → Shared → Prop) (h : Q (.bool ((List.range us.size).all e)) s) : wpAny (model prog w) A (richCompare .Eq (.ref p) (.ref q)) Q E s := by
  obtain ⟨⟨c1, d1, x1, l1⟩, o1, k1, n1, e1⟩ := id hp
  obtain ⟨⟨c2, d2, x2, l2⟩, o2, k2, n2, e2⟩ := id hq
  simp only at k1 e1 k2 e2
  subst k1 e1 k2 e2
  refine wpAny_richCompare_same_room (op := .Eq) ⟨_, o1, rfl⟩ ⟨_, o2, rfl⟩ F.slot_tuple_eq (GQ.call_here F.slot_tuple_eq ⟨_, o1, rfl⟩ F.entry_tuple_eq (F.args_tuple_eq_2 _ _) ?_) hu
  exact tupB (R := wants (fun v s' => v ≠ .notImplemented ∧ Q v s') E) z o1 o2 he ⟨(fun c => nomatch c), h⟩
end
mutual
theorem toPy_inj : ∀ {x y : D} {p : PyData}, toPy x = some p → toPy y = some p → x = y
  | .non, y, p, hx, hy => by
    simp only [toPy, Option.some.injEq] at hx; subst hx
    cases y <;> simp [toPy] at hy ⊢
  | .bl b, y, p, hx, hy => by
    simp only [toPy, Option.some.injEq] at hx; subst hx
    cases y <;> simp [toPy] at hy ⊢ <;> exact hy.symm
  | .int b, y, p, hx, hy => by
    simp only [toPy, Option.some.injEq] at hx; subst hx
    cases y <;> simp [toPy] at hy ⊢ <;> exact hy.symm
  | .str b, y, p, hx, hy => by
    simp only [toPy, Option.some.injEq] at hx; subst hx
    cases y <;> simp [toPy] at hy ⊢ <;> exact hy.symm
  | .lst xs, y, p, hx, hy => by
    simp only [toPy, Option.map_eq_some_iff] at hx
    obtain ⟨ps, e, rfl⟩ := hx
    cases y <;> simp [toPy] at hy ⊢
    exact toPyL_inj e hy
  | .tup xs, y, p, hx, hy => by
    simp only [toPy, Option.map_eq_some_iff] at hx
    obtain ⟨ps, e, rfl⟩ := hx
    cases y <;> simp [toPy] at hy ⊢
    exact toPyL_inj e hy
  | .dic xs, y, p, hx, hy => by
    simp only [toPy, Option.map_eq_some_iff] at hx
    obtain ⟨ps, e, rfl⟩ := hx
    cases y <;> simp [toPy] at hy ⊢
    exact toPyK_inj e hy
  | .ty _, y, p, hx, hy => by simp [toPy] at hx
  | .obj _ _, y, p, hx, hy => by simp [toPy] at hx
  | .ref _, y, p, hx, hy => by simp [toPy] at hx
  | .pen, y, p, hx, hy => by simp [toPy] at hx
  | .exc _ _, y, p, hx, hy => by simp [toPy] at hx
theorem toPyL_inj : ∀ {xs ys : List D} {ps : List PyData}, toPyL xs = some ps → toPyL ys = some ps → xs = ys
  | [], ys, ps, hx, hy => by
    simp only [toPyL, Option.some.injEq] at hx; subst hx
    cases ys with
    | nil => rfl
    | cons y r => simp [toPyL, Option.bind_eq_some_iff] at hy
  | x :: r, ys, ps, hx, hy => by
    simp only [toPyL, Option.bind_eq_some_iff, Option.map_eq_some_iff] at hx
    obtain ⟨d, e1, ds, e2, rfl⟩ := hx
    cases ys with
    | nil => simp [toPyL] at hy
    | cons y r' =>
      simp only [toPyL, Option.bind_eq_some_iff, Option.map_eq_some_iff] at hy
      obtain ⟨d', e1', ds', e2', e3⟩ := hy
      obtain ⟨rfl, rfl⟩ := List.cons.inj e3
      rw [toPy_inj e1 e1', toPyL_inj e2 e2']
theorem toPyK_inj : ∀ {xs ys : List (Key × D)} {ps : List (PyData × PyData)}, toPyK xs = some ps → toPyK ys = some ps → xs = ys
  | [], ys, ps, hx, hy => by
    simp only [toPyK, Option.some.injEq] at hx; subst hx
    cases ys with
    | nil => rfl
    | cons y r => simp [toPyK, Option.bind_eq_some_iff] at hy
  | (k, x) :: r, ys, ps, hx, hy => by
    simp only [toPyK, Option.bind_eq_some_iff, Option.map_eq_some_iff] at hx
    obtain ⟨d, e1, ds, e2, rfl⟩ := hx
    cases ys with
    | nil => simp [toPyK] at hy
    | cons y r' =>
      obtain ⟨k', y⟩ := y
      simp only [toPyK, Option.bind_eq_some_iff, Option.map_eq_some_iff] at hy
      obtain ⟨d', e1', ds', e2', e3⟩ := hy
      obtain ⟨e4, rfl⟩ := List.cons.inj e3
      have e5 := congrArg Prod.snd e4
      simp only at e5
      subst e5
      have e6 : k = k' := by
        have := congrArg Prod.fst e4
        cases k <;> cases k' <;> simp at this <;> rw [this]
      rw [toPy_inj e1 e1', toPyK_inj e2 e2', e6]
end
mutual
inductive EqW : Nat → D → D → Bool → Prop
  | dat {n : Nat} {x y : D} {d e : PyData} : toPy x = some d → toPy y = some e → SeqAt.shaped d = true → SeqAt.shaped e = true → EqW n x y (PyData.eqv d e)
  | tup {n : Nat} {xs ys : List D} {b : Bool} : EqWL n xs ys b → (xs = ys → b = true) → (toPy (.tup xs)).isSome = true → (toPy (.tup ys)).isSome = true → EqW (n + 1) (.tup xs) (.tup ys) b
  | dic {n : Nat} {ks ls : List (Key × D)} {b : Bool} : (ks.length = ls.length → EqWK n ls ks b) → (ks = ls → b = true) → (toPy (.dic ks)).isSome = true → (toPy (.dic ls)).isSome = true → EqW (n + 1) (.dic ks) (.dic ls) (ks.length == ls.length && b)
inductive EqWL : Nat → List D → List D → Bool → Prop
  | nil {n : Nat} : EqWL n [] [] true
  | cons {n : Nat} {x y : D} {xs ys : List D} {e b : Bool} : EqW n x y e → EqWL n xs ys b → EqWL n (x :: xs) (y :: ys) (e && b)
inductive EqWK : Nat → List (Key × D) → List (Key × D) → Bool → Prop
  | nil {n : Nat} {ls : List (Key × D)} : EqWK n ls [] true
  | miss {n : Nat} {ls r : List (Key × D)} {k : Key} {v : D} : valD ls k = none → EqWK n ls ((k, v) :: r) false
  | hit {n : Nat} {ls r : List (Key × D)} {k : Key} {v y : D} {e b : Bool} : valD ls k = some y → EqW n v y e → EqWK n ls r b → EqWK n ls ((k, v) :: r) (e && b)
end
section
variable {X : Cx} {pins : List (Addr × Obj)} {σ : St} {H : Hp} {s : Shared} {c : Ck} {g : Gh} {w : W}
theorem rep_same (I : Inv X pins σ H s) (R : Rel X.K c g w H) {a : Addr} {x y : D} (r1 : Rep X.K g (.ref a) x) (r2 : Rep X.K g (.ref a) y) (h1 : (toPy x).isSome = true) (h2 : (toPy y).isSome = true) : x = y := by
  obtain ⟨p, e1⟩ := Option.isSome_iff_exists.mp h1
  obtain ⟨q, e2⟩ := Option.isSome_iff_exists.mp h2
  obtain ⟨as, k1, _⟩ := Rep.reads I R r1 e1 (show RelV (.ref a) (.ref a) from rfl)
  obtain ⟨bs, k2, _⟩ := Rep.reads I R r2 e2 (show RelV (.ref a) (.ref a) from rfl)
  obtain ⟨rfl, _⟩ := PySem.Reads.unique k1 _ _ k2
  exact toPy_inj e1 e2
mutual
theorem EqW.run (I : Inv X pins σ H s) (R : Rel X.K c g w H) : ∀ {n : Nat} {x y : D} {b : Bool}, EqW n x y b → ∀ (A : Around) (v u : V) (v' u' : Value), A.units + n + 64 < cLine → Rep X.K g v x → Rep X.K g u y → RelV v v' → RelV u u' → SeqAt.EqP X.prog X.w A s v' u' b
  | n, _, _, _, .dat (d := d) (e := e) h1 h2 h3 h4, A, v, u, v', u', hu, r1, r2, q1, q2 => by
    obtain ⟨as, k1, _⟩ := Rep.reads I R r1 h1 q1
    obtain ⟨bs, k2, _⟩ := Rep.reads I R r2 h2 q2
    exact (SeqAt.eqAt_reads d e A s v' u' as bs k1 k2 (SeqAt.canLay_of_shaped h3) (SeqAt.canLay_of_shaped h4) (SeqAt.room_of_shaped h3 (by omega))).eqP
  | n + 1, _, _, _, .tup hl hs i1 i2, A, v, u, v', u', hu, r1, r2, q1, q2 => by
    have r1' := r1
    have r2' := r2
    cases r1 with
    | @tup a xs ds s1 t1 =>
    cases r2 with
    | @tup b ys es s2 t2 =>
    cases (show v' = Value.ref a from q1)
    cases (show u' = Value.ref b from q2)
    by_cases hab : a = b
    · subst hab
      have e := rep_same I R r1' r2' i1 i2
      rw [hs (by cases e; rfl)]
      exact (SeqAt.EqAt.same _).eqP
    · refine SeqAt.eqP_refs hab fun E Q q => ?_
      obtain ⟨us, k1, p1, _⟩ := I.tuple (R.sqT s1)
      obtain ⟨ws, k2, p2, _⟩ := I.tuple (R.sqT s2)
      obtain ⟨e, he, hb⟩ := EqWL.run I R hl A.in1 (by show A.units + 1 + n + 64 < cLine; omega) t1 t2 k1 k2
      have lz : us.toArray.size = ws.toArray.size := by
        rw [List.size_toArray, List.size_toArray, he.1]
      refine rc_tupB (e := e) lz (by omega) p1 p2 (fun j h1 h2 => ?_) E Q ?_
      · have := he.2 j (by simpa using h1) (by simpa using h2)
        simpa using this
      · rw [List.size_toArray, hb]
        exact q
  | n + 1, _, _, _, .dic (ks := ds) (ls := es) hl hs i1 i2, A, v, u, v', u', hu, r1, r2, q1, q2 => by
    have r1' := r1
    have r2' := r2
    cases r1 with
    | @dic a xs _ s1 t1 =>
    cases r2 with
    | @dic b ys _ s2 t2 =>
    cases (show v' = Value.ref a from q1)
    cases (show u' = Value.ref b from q2)
    by_cases hab : a = b
    · subst hab
      have e := rep_same I R r1' r2' i1 i2
      have e2 : ds = es := by cases e; rfl
      rw [hs e2, e2]
      simp only [beq_self_eq_true, Bool.and_self]
      exact (SeqAt.EqAt.same _).eqP
    · refine SeqAt.eqP_refs hab fun E Q q => ?_
      obtain ⟨_, ya, va, ra, da⟩ := dk_rd I.hok (R.rdic s1)
      obtain ⟨_, yb, vb, rb, db⟩ := dk_rd I.hok (R.rdic s2)
      have l1 : va.length = ds.length := by rw [← ra.length, t1.length]
      have l2 : vb.length = es.length := by rw [← rb.length, t2.length]
      refine PySem.W.rcP_dicts (knd := mixKind X.prog X.w) ya yb da db (by omega) (fun hz => EqWK.run I R (hl (by rw [← l1, ← l2]; exact hz)) A.in1 (by show A.units + 1 + n + 64 < cLine; omega) t2 rb t1 ra) E Q ?_
      rw [l1, l2]
      exact q
theorem EqWL.run (I : Inv X pins σ H s) (R : Rel X.K c g w H) : ∀ {n : Nat} {xs ys : List D} {b : Bool}, EqWL n xs ys b → ∀ (A : Around), A.units + n + 64 < cLine → ∀ {vs us : List V} {vs' us' : List Value}, RepL X.K g vs xs → RepL X.K g us ys → Vals vs vs' → Vals us us' →
    ∃ e : Nat → Bool, (vs'.length = us'.length ∧ ∀ j (h1 : j < vs'.length) (h2 : j < us'.length), SeqAt.EqP X.prog X.w A s vs'[j] us'[j] (e j)) ∧ (List.range vs'.length).all e = b
  | n, _, _, _, .nil, A, hu, _, _, _, _, .nil, .nil, q1, q2 => by
    cases q1; cases q2
    exact ⟨fun _ => true, ⟨rfl, fun j h1 _ => absurd h1 (Nat.not_lt_zero j)⟩, rfl⟩
  | n, _, _, _, .cons (e := e) (b := b) h hl, A, hu, _, _, _, _, .cons a1 b1, .cons a2 b2, q1, q2 => by
    cases q1 with
    | cons m1 n1 =>
    cases q2 with
    | cons m2 n2 =>
    obtain ⟨f, ⟨e1, e2⟩, e3⟩ := EqWL.run I R hl A hu b1 b2 n1 n2
    refine ⟨fun j => match j with | 0 => e | j + 1 => f j, ⟨by simp [e1], fun j h1 h2 => ?_⟩, ?_⟩
    · cases j with
      | zero => exact EqW.run I R h A _ _ _ _ hu a1 a2 m1 m2
      | succ j => exact e2 j (Nat.lt_of_succ_lt_succ h1) (Nat.lt_of_succ_lt_succ h2)
    · rw [List.length_cons, List.range_succ_eq_map, List.all_cons, List.all_map]
      show (e && (List.range _).all f) = _
      rw [e3]
theorem EqWK.run (I : Inv X pins σ H s) (R : Rel X.K c g w H) : ∀ {n : Nat} {ls ks : List (Key × D)} {b : Bool}, EqWK n ls ks b → ∀ (A : Around), A.units + n + 64 < cLine → ∀ {ys : List (Key × V)} {vb : List (Key × Value)}, RepK X.K g ys ls → KV ys vb → ∀ {xs : List (Key × V)} {va : List (Key × Value)}, RepK X.K g xs ks → KV xs va →
    PySem.W.KeqHitsP X.prog X.w A s vb va b
  | n, _, _, _, .nil, A, hu, ys, vb, r2, q2, _, va, .nil, q1 => by
    cases q1
    exact .nil
  | n, _, _, _, .miss (k := k) h, A, hu, ys, vb, r2, q2, _, va, .cons a1 b1, q1 => by
    cases q1 with
    | @cons p q ps qs m1 n1 =>
    obtain ⟨k', v'⟩ := q
    obtain ⟨e1, m2⟩ := m1
    have e1 : k = k' := e1
    subst e1
    refine .miss ?_
    have z := q2.val k
    rcases r2.val k with ⟨z1, _⟩ | ⟨_, _, _, z2, _⟩
    · rw [z1] at z
      cases hv : valueAt vb k with
      | none => rfl
      | some u => rw [hv] at z; exact z.elim
    · rw [h] at z2; cases z2
  | n, _, _, _, .hit (k := k) (y := y) h h2 hr, A, hu, ys, vb, r2, q2, _, va, .cons a1 b1, q1 => by
    cases q1 with
    | @cons p q ps qs m1 n1 =>
    obtain ⟨k', v'⟩ := q
    obtain ⟨e1, m2⟩ := m1
    have e1 : k = k' := e1
    subst e1
    have z := q2.val k
    rcases r2.val k with ⟨_, z2⟩ | ⟨x, d, z1, z2, z3⟩
    · rw [h] at z2; cases z2
    · rw [h] at z2; cases z2
      rw [z1] at z
      obtain ⟨u, hv, ru⟩ := RelO.some_of z
      exact .hit hv (EqW.run I R h2 A _ _ _ _ hu a1 z3 m2 ru) (EqWK.run I R hr A hu r2 q2 b1 n1)
end
end
def rcW (x y : D) : Prop := match x, y with
  | .tup _, .tup _ => True
  | .dic _, .dic _ => True
  | _, _ => False
def eqW : DR2 := fun x y w Q => rcW x y ∧ ∃ n b, n ≤ 60 ∧ EqW n x y b ∧ Q (.bl b) w
end DL
namespace DL
open PySem PySem.Spec PyProof.Rows L2
section
variable {X : Cx} {pins : List (Addr × Obj)} {σ : St} {H : Hp} {s : Shared} {c : Ck} {g : Gh} {w : W}
theorem EqW.rc (I : Inv X pins σ H s) (R : Rel X.K c g w H) {n : Nat} {x y : D} {b : Bool} (h : EqW n x y b) (hc : rcW x y) {A : Around} {v u : V} {v' u' : Value} (hu : A.units + n + 64 < cLine) (r1 : Rep X.K g v x) (r2 : Rep X.K g u y) (q1 : RelV v v') (q2 : RelV u u')
    (E Q : Value → Shared → Prop) (q : Q (.bool b) s) : wpAny (model X.prog X.w) A (richCompare .Eq v' u') Q E s := by
  cases h with
  | @dat _ _ _ d e h1 h2 h3 h4 =>
    obtain ⟨as, k1, _⟩ := Rep.reads I R r1 h1 q1
    obtain ⟨bs, k2, _⟩ := Rep.reads I R r2 h2 q2
    exact SeqAt.compareEq_shaped k1 k2 h3 h4 (by omega) q
  | @tup n xs ys _ hl hs i1 i2 =>
    cases r1 with
    | @tup a xs _ s1 t1 =>
    cases r2 with
    | @tup b ys _ s2 t2 =>
    cases (show v' = Value.ref a from q1)
    cases (show u' = Value.ref b from q2)
    obtain ⟨us, k1, p1, _⟩ := I.tuple (R.sqT s1)
    obtain ⟨ws, k2, p2, _⟩ := I.tuple (R.sqT s2)
    obtain ⟨e, he, hb⟩ := EqWL.run I R hl A.in1 (by show A.units + 1 + n + 64 < cLine; omega) t1 t2 k1 k2
    have lz : us.toArray.size = ws.toArray.size := by
      rw [List.size_toArray, List.size_toArray, he.1]
    refine rc_tupB (e := e) lz (by omega) p1 p2 (fun j h1 h2 => ?_) E Q ?_
    · have := he.2 j (by simpa using h1) (by simpa using h2)
      simpa using this
    · rw [List.size_toArray, hb]
      exact q
  | @dic n ds es _ hl hs i1 i2 =>
    cases r1 with
    | @dic a xs _ s1 t1 =>
    cases r2 with
    | @dic b ys _ s2 t2 =>
    cases (show v' = Value.ref a from q1)
    cases (show u' = Value.ref b from q2)
    obtain ⟨_, ya, va, ra, da⟩ := dk_rd I.hok (R.rdic s1)
    obtain ⟨_, yb, vb, rb, db⟩ := dk_rd I.hok (R.rdic s2)
    have l1 : va.length = ds.length := by rw [← ra.length, t1.length]
    have l2 : vb.length = es.length := by rw [← rb.length, t2.length]
    refine PySem.W.rcP_dicts (knd := mixKind X.prog X.w) ya yb da db (by omega) (fun hz => EqWK.run I R (hl (by rw [← l1, ← l2]; exact hz)) A.in1 (by show A.units + 1 + n + 64 < cLine; omega) t2 rb t1 ra) E Q ?_
    rw [l1, l2]
    exact q
end
theorem DE_imp {X : Cx} {Wv : WX} {e : Expr} {t t' : DTE} (h : DE X Wv e t) (i : ∀ env w Q, t' env w Q → t env w Q) : DE X Wv e t' :=
  ⟨PE_imp h.pe fun σ H Qv ⟨c, g, env, w, Q, B, q, k⟩ => ⟨c, g, env, w, Q, B, i _ _ _ q, k⟩⟩
def rEqW (X : Cx) : R2 := fun v u H Q => ∃ c g w x y n b, Rel X.K c g w H ∧ Rep X.K g v x ∧ Rep X.K g u y ∧ rcW x y ∧ n ≤ 60 ∧ EqW n x y b ∧ Q (.bl b) H
theorem od_eqW {X : Cx} (hu : X.A.units + 150 < cLine) : OpD X (compareOp .Eq) eqW := by
  refine ⟨rEqW X, fun pins s σ H x y v u Q I rx ry h => ?_, fun c g w H x y v u Q Qv R r1 r2 q k => ?_⟩
  · obtain ⟨c, g, w, x, y, n, b, R, r1, r2, hc, hn, h, q⟩ := h
    exact EqW.rc I R h hc (by omega) r1 r2 rx ry _ _ ⟨.bl b, H, I, rfl, q⟩
  · obtain ⟨hc, n, b, hn, h, q⟩ := q
    exact ⟨c, g, w, x, y, n, b, R, r1, r2, hc, hn, h, k _ _ ⟨g, w, .bl b, .rfl, R, .bl b, q⟩⟩
structure InK (K : PySem.W.Frag) (C : Addr) : Prop where
  cl : Cls K C
  c1 : PySem.W.findIn K (.ref C) "__class__" = some (some (.builtin "object.__class__"))
  c2 : PySem.W.specialIn K (.builtin "object.__class__") "__get__" = some (some (.builtin "getset_descriptor.__get__"))
  c3 : PySem.W.takesIn K (.builtin "object.__class__") = some true
  c4 : PySem.W.mroIn K C (.type "object") = some true
  c5 : PySem.W.kitOne K (.ref C) (.ref C) = some true
structure IsX (K : PySem.W.Frag) (mg : Str → Option Value) (n : Str) : Prop where
  ex : ∃ C, ClsAt K n C ∧ InK K C ∧ mg n = some (.ref C) ∧ ∀ m ∈ ["NoneType", "bool", "int", "str", "list", "tuple", "dict"], PySem.W.kitOne K (.type m) (.ref C) = some false
def isiC (n : Str) (x : D) (w : W) (Q : DK) : Prop := match x with
  | .obj n' _ => n' = n ∧ Q (.bl true) w
  | x => (tyN x).isSome = true ∧ Q (.bl false) w
theorem tyN_in {x : D} {m : String} (h : tyN x = some m) : m ∈ ["NoneType", "bool", "int", "str", "list", "tuple", "dict"] := by
  cases x <;> cases h <;> decide
def isiCR (n : Str) (C : Addr) : DRC := fun xs w Q => match xs with
  | [x, .ref a] => a = C ∧ isiC n x w Q
  | _ => False
theorem cd_isiC {X : Cx} {n : Str} {C : Addr} (hC : ClsAt X.K n C) (c : InK X.K C) (hk : ∀ m ∈ ["NoneType", "bool", "int", "str", "list", "tuple", "dict"], PySem.W.kitOne X.K (.type m) (.ref C) = some false) :
    CallD X (.builtin "isinstance") (isiCR n C) := by
  refine ⟨_, call_isi, fun c' g w H vs ds Q Qv R r q k => ?_⟩
  unfold isiCR at q
  split at q
  · rename_i x a
    obtain ⟨rfl, q⟩ := q
    obtain ⟨v, u, rfl, r1, r2⟩ := r.two
    cases r2
    have fin : ∀ b, Q (.bl b) w → Qv (.bl b) H := fun b z => k _ _ ⟨g, w, _, .rfl, R, .bl b, z⟩
    unfold isiC at q
    split at q
    · obtain ⟨rfl, q⟩ := q
      cases r1 with
      | @obj a' C' dx _ xs ds kC s rf =>
        cases hC.eq kC
        exact ⟨_, _, _, _, true, rfl, .own _, .base (.ins (R.ins s) c.cl c.c1 c.c2 c.c3 c.c4), c.c5, fin _ q⟩
    · obtain ⟨h, q⟩ := q
      obtain ⟨m, hm⟩ := Option.isSome_iff_exists.mp h
      exact ⟨_, _, _, _, false, rfl, .own _, r1.tyx R hm, hk m (tyN_in hm), fin _ q⟩
  · exact q.elim
def dIsiC (n : Str) (t : DTE) : DTE := fun env w Q => t env w fun x w1 => isiC n x w1 Q
theorem de_isiC {X : Cx} {Wv : WX} {n : Str} {p p2 pos : Pos} {e : Expr} {t : DTE} (I : IsX X.K X.mg n) (hm : X.mg "isinstance" = none) (he : DE X Wv e t) (hg : Gl X "isinstance" := by rfl) (hg2 : Gl X n := by rfl) (hd2 : (n == ("__debug__" : Str)) = false := by decide)
    (hs : starEach (e :: [.Name n p2]) X.env = (false, eval e X.env) :: starEach [.Name n p2] X.env := by rfl) (hs2 : starEach ([.Name n p2]) X.env = (false, eval (.Name n p2) X.env) :: starEach [] X.env := by rfl) (hpl : (backTo pos (starEach [.Name n p2] X.env)).any (·.1) = false := by rfl) :
    DE X Wv (.Call (.Name "isinstance" p) [e, .Name n p2] [] pos) (dIsiC n t) := by
  obtain ⟨C, hC, c, hmC, hk⟩ := I.ex
  exact DE_imp (de_callB (cd_isiC hC c hk) hm (da_cons he (da_cons (de_ref hmC hg2 hd2) da_nil hs2) hs) hg (by decide +kernel) (by decide) (by decide) hs hpl) fun env w Q h => by
    show t env w fun x w1 => C = C ∧ isiC n x w1 Q
    have e : (fun x w1 => C = C ∧ isiC n x w1 Q) = fun x w1 => isiC n x w1 Q := by
      funext x w1
      exact propext ⟨fun h => h.2, fun h => ⟨rfl, h⟩⟩
    rw [e]
    exact h
section
open PySem.Builtin
variable {prog : Program} {w : World} {A : Around} {E : Value → Shared → Prop} {s : Shared} {K : PySem.W.Frag} {a C f : Addr} {ob : Obj} {od : Option Obj} {b : Value}
theorem ifBound_B {M : Model} {name : Str} {i : String} {args : List Value} {Q : Option Value → Shared → Prop} (X : K.In s.heap) (I : PySem.W.InstAt s.heap a ob C od) (hs : PySem.W.findIn K (.ref C) name = some (some (.builtin i))) (S : Slot "object" name i)
    (h : wpAny M A (call (.builtin i) (.ref a :: args)) (fun v => Q (some v)) E s) : wpAny M A (callSpecialIfBound? (.ref a) name args) Q E s := by
  simp only [callSpecialIfBound?, bindSpecialIfBound?]
  refine wpAny_holding (wpAny_bind (wpAny_bind (wpAny_bind (I.type.here ((PySem.W.looks_findIn X hs).here ?_)))))
  simp only [S.bind]
  refine wpAny_bind (wpAny_askSetting (wpAny_ite ?_))
  have last : wpAny M A (call (.builtin i) ([.ref a] ++ args) >>= fun v => pure (some v)) Q E s := wpAny_bind (wpAny_mono h (fun v s' h' => wpAny_pure h') fun _ _ h' => h')
  split
  · exact wpAny_bind (wpAny_pure (wpAny_pure last))
  · exact wpAny_tryCatch (wpAny_bind (wpAny_pure (wpAny_pure last)))
theorem ne_body {Q : Fin → Shared → Prop} (hu : A.units < cLine) (X : K.In s.heap) (I : PySem.W.InstAt s.heap a ob C od) {c2 : Addr} (e1 : PySem.W.findIn K (.ref C) "__eq__" = some (some (.ref f))) (e2 : PySem.W.isFn K (.ref f) = true)
    (h : wpAny (model prog w) A (call (.ref f) [.ref a, .ref c2]) (fun v s' => ∃ k, v = .bool k ∧ Q (.done (.ret (.bool (!k)))) s') E s) : wpAny (model prog w) A (Builtin.«object.__ne__» ⟨[.ref a, .ref c2], []⟩) Q E s := by
  unfold Builtin.«object.__ne__»
  have step : wpAny (model prog w) A (callSpecialIfBound? (.ref a) (Str.ofString "__eq__") [.ref c2]) (fun r s' => ∃ k, r = some (.bool k) ∧ Q (.done (.ret (.bool (!k)))) s') E s :=
    PySem.W.ifBound_K X I e1 e2 (wpAny_mono h (fun v s' ⟨k, e, q⟩ => ⟨k, by rw [e], q⟩) fun _ _ z => z)
  obtain ⟨hh, gg, dd, tk, oo⟩ := s
  repeat (first
    | with_reducible refine wpAny_cRoomFor hu ?_
    | (refine wpAny_bind (m := callSpecialIfBound? (.ref a) (Str.ofString "__eq__") [.ref c2]) (wpAny_mono step (fun r s' hr => by
        obtain ⟨k, rfl, q⟩ := hr
        repeat (first | exact q | exact wpAny_pure q | exact wpAny_truthy_bool q | (refine wpAny_bind (m := truthy (.bool _)) (wpAny_truthy_bool ?_)) | wp_step)) fun _ _ z => z))
    | wp_step)
theorem ne_own {Q : Value → Shared → Prop} (hu : A.units + 1 < cLine) (X : K.In s.heap) (I : PySem.W.InstAt s.heap a ob C od) {c2 : Addr} (hb : PySem.W.Looks (model prog w) s.heap (typeOf (.ref c2)) (.ref C)) (e1 : PySem.W.findIn K (.ref C) "__eq__" = some (some (.ref f)))
    (e2 : PySem.W.isFn K (.ref f) = true) (e3 : PySem.W.findIn K (.ref C) "__ne__" = some (some (.builtin "object.__ne__"))) (e4 : PySem.W.mroIn K C (.type "object") = some true)
    (h : wpAny (model prog w) A.in1 (call (.ref f) [.ref a, .ref c2]) (fun v s' => ∃ k, v = .bool k ∧ Q (.bool (!k)) s') E s) : wpAny (model prog w) A (richCompare .NotEq (.ref a) (.ref c2)) Q E s := by
  have slot := PySem.F.cmp_object.ne
  have one : wpAny (model prog w) A (tryCompare (.ref a) "__ne__" (.ref c2)) (fun r s' => ∃ k, r = some (.bool k) ∧ Q (.bool k) s') E s := by
    unfold tryCompare
    refine wpAny_bind (ifBound_B X I e3 slot (wpAny_call (codeAny_call_builtin slot.plain PySem.F.cmpEntry_ne (PySem.W.check_slot PySem.F.cmpKind_ne PySem.F.cmpSplit_ne (I.type.andThen (PySem.W.looks_subIn X (t := .ref C) (base := .type "object") e4)) (PySem.F.cmpArgs_ne _ _)
      (ne_body (A := A.in1) hu X I e1 e2 (wpAny_mono h (fun v s' hv => ?_) fun _ _ z => z))))))
    obtain ⟨k, rfl, q⟩ := hv
    exact ⟨k, rfl, wpAny_pure ⟨!k, rfl, q⟩⟩
  unfold richCompare
  simp only [oneThing_ref]
  refine wpAny_holding (wpAny_bind (wpAny_cRoomFor (by omega) ?_))
  refine wpAny_bind (I.type.here (wpAny_bind (hb.here ?_)))
  rw [show (Value.ref C != Value.ref C) = false from by simp]
  simp only [Bool.false_eq_true, if_false]
  refine wpAny_bind (wpAny_pure ?_)
  simp only [Bool.false_eq_true, if_false]
  refine wpAny_bind (wpAny_mono one (fun r s' z => ?_) fun _ _ z => z)
  obtain ⟨k, rfl, q⟩ := z
  exact wpAny_pure q
end
section
variable {X : Cx}
theorem takes0W : Takes X W0 := fun u s' ⟨_, _, _, _, _, _, _, _, _, _, _, _, _, _, _, _, w⟩ => w.elim
theorem runBelow {A : Around} (ha : A.frames = X.A.frames) (hg : A.guards = X.A.guards) {k : Nat} {f : Addr} {fd : FuncData} {ps : List Str} {sp : Sp} {pins : List (Addr × Obj)} {σ : St} {H : Hp} {s : Shared} {Q : VK} {us : List Value} {vs : List V} (F : FnG X.prog X.w X.K X.mg X.base k f fd ps sp) (hr : Room k A) (hgd : X.A.guards = some []) (hb : Binds X.K fd ps [])
    (I : Inv X pins σ H s) (r : Vals vs us) (h : sp vs H Q fun _ _ _ => False) : wpAny (model X.prog X.w) A (call (.ref f) us) (EP X pins σ Q) X.xe s := by
  have hl : us.length = ps.length := by
    rw [← r.length]
    exact F.len _ _ _ _ h
  have b := hb s us I.kIn (by rw [List.append_nil]; exact hl)
  rw [List.append_nil] at b
  have e := I.env0
  have e0 : Env0 X.prog X.w X.K X.mg X.base A X.stack s H := ⟨by rw [ha]; exact e.frames, e.mod, e.bs, e.bsz, e.funs, e.frf, e.hok, e.bare⟩
  refine wpAny_call (codeAny_mono (F.run A X.stack s H _ us vs Q _ hr (by rw [hg]; exact hgd) e0 b r h) fun r s' hq => ?_)
  match r, hq with
  | .error e, hq => exact passAt takes0W σ pins H s e s' I hq
  | .ok (.ret u), hq => exact I.after hq
structure NeX (K : PySem.W.Frag) (n : Str) : Prop where
  ex : ∃ C, ClsAt K n C ∧ PySem.W.findIn K (.ref C) "__ne__" = some (some (.builtin "object.__ne__")) ∧ PySem.W.mroIn K C (.type "object") = some true
def eqOwn (n : Str) (dsp : DSp) (neg : Bool) : DR2 := fun x y w Q => ∃ fs gs, x = .obj n fs ∧ y = .obj n gs ∧ dsp [x, y] w.mute fun d w2 => ∃ b, d = .bl b ∧ Q (.bl (neg ^^ b)) (w2.as w)
def rEqOwn (K : PySem.W.Frag) (n : Str) (dsp : DSp) (neg : Bool) : R2 := fun v u H Qv => ∃ a b C dx dy xs ys, v = .ref a ∧ u = .ref b ∧ ClsAt K n C ∧ H a = some (.ins C dx xs) ∧ H b = some (.ins C dy ys) ∧
  liftSp K dsp [v, u] H (fun z H' => ∃ b, z = .bl b ∧ Qv (.bl (neg ^^ b)) H') fun _ _ _ => False
theorem eqOwn_lift {n : Str} {dsp : DSp} {neg : Bool} {c : Ck} {g : Gh} {w : W} {H : Hp} {x y : D} {v u : V} {Q : DK} {Qv : VK} (R : Rel X.K c g w H) (r1 : Rep X.K g v x) (r2 : Rep X.K g u y) (q : eqOwn n dsp neg x y w Q) (k : ∀ v H', PQ X.K c g Q v H' → Qv v H') : rEqOwn X.K n dsp neg v u H Qv := by
  obtain ⟨fs, gs, rfl, rfl, q⟩ := q
  have r1' := r1
  have r2' := r2
  cases r1 with
  | @obj a C dx _ xs _ kC s1 _ =>
  cases r2 with
  | @obj b C' dy _ ys _ kC' s2 _ =>
  cases kC.eq kC'
  refine ⟨a, b, C, dx, dy, xs, ys, rfl, rfl, kC, R.ins s1, R.ins s2, c.mute, g, w.mute, _, _, R.mute, .cons r1' (.cons r2' .nil), q, fun v H' ⟨g2, w2, d, l2, R2, r2, q2⟩ => ?_, fun _ => rfl, fun cls d H' g' l' px => ?_⟩
  · obtain ⟨b, rfl, q2⟩ := q2
    cases r2
    exact ⟨b, rfl, k _ _ ⟨g2, w2.as w, .bl _, l2, R2.unmute R.ex, .bl _, q2⟩⟩
  · obtain ⟨_, _, _, _, _, _, _, e, _⟩ := px
    exact e
theorem od_neOwn {n : Str} {k : Nat} {dsp : DSp} (N : NeX X.K n) (F : DMet X.prog X.w X.K X.mg X.base k n "__eq__" 2 dsp) (hr : Room (k + 1) X.A) (hgd : X.A.guards = some []) : OpD X (compareOp .NotEq) (eqOwn n dsp true) := by
  obtain ⟨C, f, fd, ps, hC, cl, hm, FF, hb, _⟩ := F.ex
  obtain ⟨C2, hC2, n1, n2⟩ := N.ex
  cases hC.eq hC2
  refine ⟨rEqOwn X.K n dsp true, fun pins s σ H x y v u Q I rx ry h => ?_, fun c g w H x y v u Q Qv R r1 r2 q k => eqOwn_lift R r1 r2 q k⟩
  obtain ⟨a, b, C', dx, dy, xs, ys, rfl, rfl, hC', ha, hb', h⟩ := h
  cases hC.eq hC'
  cases rx
  cases ry
  obtain ⟨mA, J, _⟩ := ins_get I.hok ha
  obtain ⟨mB, J', _⟩ := ins_get I.hok hb'
  obtain ⟨od, J, _⟩ := J.look
  obtain ⟨od', J', _⟩ := J'.look
  refine ne_own (by have := hr.units; omega) I.kIn J J'.type hm.at_ hm.fn n1 n2 ?_
  refine wpAny_mono (runBelow (A := X.A.in1) rfl rfl FF hr.in1 hgd hb I (us := [.ref a, .ref b]) (vs := [.ref a, .ref b]) (.cons rfl (.cons rfl .nil)) h) (fun v s' q => ?_) fun _ _ z => z
  obtain ⟨z, H', I', rz, k, rfl, q⟩ := q
  cases rz
  refine ⟨k, rfl, .bl _, H', I', rfl, ?_⟩
  simpa using q
end
theorem sub_none {K : PySem.W.Frag} {C : Addr} : ∀ m ∈ ["NoneType", "bool", "int", "str", "list", "tuple", "dict"], PySem.W.subIn K (.type m) (.ref C) = some false := by
  intro t ht
  simp only [List.mem_cons, List.not_mem_nil, or_false] at ht
  rcases ht with rfl | rfl | rfl | rfl | rfl | rfl | rfl <;> kernel_rfl
theorem IsX.of {K : PySem.W.Frag} {mg : Str → Option Value} {n : Str} {C : Addr} (kC : ClsAt K n C) (hC : Cls K C) (m : mg n = some (.ref C)) (c1 : PySem.W.findIn K (.ref C) "__class__" = some (some (.builtin "object.__class__")))
    (c2 : PySem.W.specialIn K (.builtin "object.__class__") "__get__" = some (some (.builtin "getset_descriptor.__get__"))) (c3 : PySem.W.takesIn K (.builtin "object.__class__") = some true) (c4 : PySem.W.mroIn K C (.type "object") = some true)
    (c5 : PySem.W.isClsIn K C = true) (c6 : PySem.W.typeIn K (.ref C) = some (.type "type")) : IsX K mg n := by
  refine ⟨⟨C, kC, ⟨hC, c1, c2, c3, c4, ?_⟩, m, fun t ht => ?_⟩⟩
  · unfold PySem.W.kitOne
    rw [if_pos (by simp)]
  · have e := sub_none (K := K) (C := C) t ht
    unfold PySem.W.kitOne
    rw [if_neg (by simp)]
    unfold PySem.W.kitCls
    have c5 : (PySem.W.clsIn K C).isSome = true := c5
    dsimp only
    rw [c5, c6]
    rw [if_pos (by simp)]
    exact e
theorem NeX.of {K : PySem.W.Frag} {n : Str} {C : Addr} (kC : ClsAt K n C) (n1 : PySem.W.findIn K (.ref C) "__ne__" = some (some (.builtin "object.__ne__"))) (n2 : PySem.W.mroIn K C (.type "object") = some true) : NeX K n := ⟨⟨C, kC, n1, n2⟩⟩
theorem u150 {k : Nat} {A : Around} (r : Room k A) : A.units + 150 < cLine := by have := r.un; omega
end DL
namespace DL
open PySem PySem.Spec PyProof.Rows L2
def indexIn (xs : List D) (y : D) (w : W) (Q : DK) : Prop := (scalD y && xs.all scalD) = true ∧ ∃ j z, xs[j]? = some z ∧ eqS z y = true ∧ (∀ m z', m < j → xs[m]? = some z' → eqS z' y = false) ∧ Q (.int (j : Nat)) w
def indexR : D → DRC := fun x ds w Q => match x, ds with
  | .lst xs, [y] => indexIn xs y w Q
  | .ref p, [y] => ∃ xs, w.m p = some (.lst xs) ∧ indexIn xs y w Q
  | _, _ => False
section
variable {X : Cx}
theorem index_imp {c : Ck} {g : Gh} {w : W} {H : Hp} {a : Addr} {vs : List V} {xs : List D} {u : V} {y : D} {Q : DK} {Qv : VK} (R : Rel X.K c g w H) (s : SqL X.K H a vs) (r1 : RepL X.K g vs xs) (r2 : Rep X.K g u y) (q : indexIn xs y w Q) (k : ∀ v H', PQ X.K c g Q v H' → Qv v H') : rIndex X.K (.ref a) [u] H Qv := by
  obtain ⟨h1, j, z, h2, h3, h4, h5⟩ := q
  rw [Bool.and_eq_true] at h1
  obtain ⟨v, hv, rv⟩ := r1.get h2
  have sc : ∀ (i : Nat) d, xs[i]? = some d → scalD d = true := fun i d h => List.all_eq_true.mp h1.2 d (List.mem_of_getElem? h)
  refine ⟨a, vs, u, j, v, rfl, rfl, s, r2.flat h1.1, r1.flat h1.2, hv, ?_, fun m z' hm hz => ?_, k _ _ ⟨g, w, _, .rfl, R, .int _, h5⟩⟩
  · rw [rv.eqS r2 (sc j z h2) h1.1]; exact h3
  · obtain ⟨d, hd, rd⟩ := r1.getV hz
    rw [rd.eqS r2 (sc m d hd) h1.1]
    exact h4 m d hm hd
theorem md_index : MtD X "list.index" indexR := by
  refine ⟨_, mt_index, fun c g w H v x vs ds Q Qv R r1 r2 q k => ?_⟩
  unfold indexR at q
  split at q
  · obtain ⟨u, rfl, a⟩ := r2.one
    cases r1 with
    | lst s r => exact index_imp R (R.sqL s) r a q k
  · obtain ⟨u, rfl, a⟩ := r2.one
    cases r1
    obtain ⟨xs, e, q⟩ := q
    obtain ⟨ys, e1, r⟩ := R.mlst e
    exact index_imp R (SqL.of e1) r a q k
  · exact q.elim
end
structure W.Sub (w2 w1 : W) : Prop where
  n : w2.n = w1.n
  e : w2.e = w1.e
  m : ∀ a o, w2.m a = some o → w1.m a = some o
theorem W.Sub.rfl {w : W} : W.Sub w w := ⟨Eq.refl _, Eq.refl _, fun _ _ h => h⟩
theorem Rel.sub {K : PySem.W.Frag} {c : Ck} {g : Gh} {w w2 : W} {H : Hp} (R : Rel K c g w H) (s : W.Sub w2 w) : Rel K c g w2 H :=
  ⟨R.imm, R.lck, fun a m e => R.mu a m (s.m a m e), R.frm, fun a e => by
    obtain ⟨h1, xs, h2, h3⟩ := R.pen a e
    exact ⟨h1, xs, h2, by rw [s.n]; exact h3⟩, by rw [s.e]; exact R.ex⟩
end DL
namespace DL
open PySem PySem.Spec PyProof.Rows L2
section
variable {X : Cx}
end
end DL
namespace DL
open PySem PySem.Spec PyProof.Rows L2
section
variable {X : Cx}
end
end DL
namespace DL
open PySem PySem.Spec PyProof.Rows L2
structure ExX (K : PySem.W.Frag) (mg : Str → Option Value) (n : Str) : Prop where
  ex : ∃ C, ClsAt K n C ∧ mg n = some (.ref C) ∧ PySem.W.keepIn K (.ref C) = true ∧ PySem.W.excIn K C [.type "ValueError", .type "Exception", .type "BaseException", .type "object"] "ValueError.__new__" = true ∧
    PySem.W.subIn K (.ref C) (.type "BaseException") = some true ∧ PySem.W.typeIn K (.ref C) = some (.type "type")
section
variable {X : Cx} {Wv : WX} {n m : Str} {j : Nat} {p p2 pos pos2 : Pos}
def dRaise (n : Str) : DTS := fun _ env w => w.e env n none w.m w.n
theorem ds_raise (I : ExX X.K X.mg n) (hc : X.calm = true) (tk : Takes X Wv) (hg : Gl X n := by rfl) (hdb : (n == ("__debug__" : Str)) = false := by decide) :
    DS X Wv (.Raise (some (.Call (.Name n p) [.Constant (.str m) j p2] [] pos)) none pos2) (dRaise n) := by
  obtain ⟨C, kC, hm, kp, ei, h1, h2⟩ := I.ex
  exact ⟨PS_imp (ps_raise hc tk (pmk_own PySem.F.excBase_ValueError ei hm kp (raises_own h1 h2) hg hdb)) fun Dv σ H ⟨c, g, env, w, D, B, q, E⟩ =>
    B.X env σ H (.ref C) none g .rfl B.E ⟨g, w, n, none, ⟨C, kC, rfl⟩, .rfl, B.R, by rw [← B.R.ex]; exact q, rfl⟩⟩
end
section
variable {X : Cx} {pins : List (Addr × Obj)} {σ : St} {H : Hp} {s : Shared}
theorem excO_ok {P : Program} {w : World} {H : Hp} {h : Heap} {a : Addr} {cls : Value} {d : Option Addr} {oe : Obj} {vs : Array Value} (e : h.get? a = some oe) (z : Zc cls d oe) (hd : oe.data = .fields vs) : ObjOk P w H h a (ExcO a cls d) :=
  ⟨⟨oe, vs, e, z.1, z.2, hd⟩, ⟨oe, e⟩, fun _ _ ⟨o, v, q, r⟩ k => ⟨o, v, k o q, r⟩⟩
theorem inv_adopt {a : Addr} {oe : Obj} {vs : Array Value} {cls : Value} {d : Option Addr} (I : Inv X pins σ H s) (ha : s.heap.get? a = some oe) (hz : Zc cls d oe) (hd : oe.data = .fields vs) (na : H a = none) (n0 : X.s_0.heap.get? a = none)
    (nL : a ≠ X.env.locals) (np : ∀ p ∈ X.pn ++ pins, p.1 ≠ a) : Inv X pins σ (upd H a (ExcO a cls d)) s := by
  have ne : ∀ {b : Addr} {u : HO}, H b = some u → b ≠ a := fun {b u} e => ne_of_none e na
  have n1 : ∀ {b : Addr} {o : Obj}, X.s_0.heap.get? b = some o → b ≠ a := fun {b o} e z => by rw [z, n0] at e; cases e
  have nc : ∀ x c, X.env.cells.lookup x = some c → c ≠ a := fun x c e z => by
    obtain ⟨v, o, ho, hv⟩ := I.cell x c e
    rw [z, ha] at ho
    cases ho
    rw [hd] at hv
    cases hv
  refine ⟨I.ok, I.os, I.bare, ⟨I.base.keep, I.base.slot, fun b o e n hb => ?_, I.base.there, fun b xs e => ?_, fun b o u e => ?_, fun b ps e => ?_⟩, I.loc, I.cell, ?_, fun x c e => ?_, fun p hp => ?_, fun b u e => ?_, I.len⟩
  · rw [upd_ne (n1 e)]; exact I.base.free b o e n hb
  · have q := I.base.tups b xs e
    rw [upd_ne (ne q)]; exact q
  · have q := I.base.frzs b o u e
    rw [upd_ne (ne q)]; exact q
  · obtain ⟨m, q⟩ := I.base.tbls b ps e
    exact ⟨m, by rw [upd_ne (ne q)]; exact q⟩
  · rw [upd_ne (fun z => nL z.symm)]; exact I.free
  · rw [upd_ne (nc x c e)]; exact I.freeC x c e
  · obtain ⟨e, n, r⟩ := I.pin p hp
    exact ⟨e, by rw [upd_ne (np p hp)]; exact n, r⟩
  · by_cases hb : b = a
    · subst hb
      rw [upd_same] at e
      cases e
      exact excO_ok ha hz hd
    · rw [upd_ne hb] at e
      exact (I.hok b u e).stay (fun c v _ q => q) (fun c q => by rw [upd_ne (ne q)]; exact q) fun c xs q => by rw [upd_ne (ne q)]; exact q
end
def wCat (K : PySem.W.Frag) (c : Value) (i : Nat) (ts : TS) (D : Ends) : WX := fun cls d σ H =>
  PySem.W.exmOne K cls c = some true ∧ ∀ a, H a = none → ts { nx := fun σ' H' => D.nx (σ'.set i none) H', rt := D.rt, bk := fun σ' H' => D.bk (σ'.set i none) H', ct := fun σ' H' => D.ct (σ'.set i none) H' } (σ.set i (some (.ref a))) (upd H a (ExcO a cls d))
section
variable {X : Cx} {pins : List (Addr × Obj)} {x n : Str} {c : Value} {i : Nat} {body suite : List Stmt} {b₀ : Stmt} {np pos pos' : Pos} {tb : WX → TS} {ts : TS}
theorem clause_keeps (hf : X.env.frame = some X.env.locals) (hx : X.ex = []) (hN : X.N.Nodup) (hi : X.N[i]? = some n) (hln : X.env.kindOf n = some .local) (hc : Names X x c)
    (hsu : ∀ (a : Addr) (pn : List (Addr × Obj)), PSs (X.suite a pn) (b₀ :: suite) ts) {D : Ends} {a : Addr} {B h3 : Heap} {σ : St} {H : Hp} {sI s' : Shared} {cls : Value} {d : Option Addr} (hs : X.stack = X.env :: X.outer)
    (J : Inv X pins σ H sI) (nb : ∀ b o, sI.heap.get? b = some o → b ∉ frs X.stack → B.get? b = some o) (up : sI.heap.UpToSlots h3) (na : H a = none) (os : s'.os = sI.os) (ag : AllBare s'.gens)
    (fl : HandSPX.FlyingZ B (X.env :: X.outer) a (Zc cls d) h3) (w : wCat X.K c i ts D cls d σ H) :
    wpAny (model X.prog X.w) X.A (handleBy (.ref a) X.env [.ExceptHandler (some (.Name x np)) (some n) (b₀ :: suite) pos']) (SP X pins D) X.xe { s' with heap := h3 } := by
  have ok := J.ok
  have notIn : ∀ {h : Heap}, HandSPX.FlyingZ B (X.env :: X.outer) a (Zc cls d) h → a ∉ frs X.stack := fun {h} fl hm => by
    obtain ⟨oe, vs, he, _, hd⟩ := fl.there
    rw [hs] at hm
    obtain ⟨_, o', e', hnf⟩ := fl.2.2.1.mem hm
    rw [he] at e'
    cases e'
    exact hnf _ hd
  have nfr := notIn fl
  have nI : sI.heap.get? a = none := by
    cases e : sI.heap.get? a with
    | none => rfl
    | some o =>
      have z := nb a o e nfr
      rw [fl.2.1] at z
      cases z
  have n0 : X.s_0.heap.get? a = none := by
    cases e : X.s_0.heap.get? a with
    | none => rfl
    | some o =>
      obtain ⟨o', q⟩ := J.base.there a o e (by rw [hx]; exact fun z => nomatch z)
      rw [nI] at q
      cases q
  have np0 : ∀ p ∈ X.pn ++ pins, p.1 ≠ a := fun p hp z => by
    obtain ⟨e, _⟩ := J.pin p hp
    rw [z, nI] at e
    cases e
  have nL : a ≠ X.env.locals := fun z => nfr (by rw [hs]; exact List.mem_filterMap.mpr ⟨X.env, List.mem_cons_self, by rw [hf, z]⟩)
  have nF : a ∉ X.fs := fun hm => by
    obtain ⟨e, he, q⟩ := List.mem_filterMap.mp hm
    exact nfr (by rw [hs]; exact List.mem_filterMap.mpr ⟨e, List.mem_cons_of_mem _ he, q⟩)
  have land : ∀ {h : Heap}, HandSPX.FlyingZ B (X.env :: X.outer) a (Zc cls d) h → sI.heap.UpToSlots h → Inv X pins σ (upd H a (ExcO a cls d)) { s' with heap := h } := fun {h} f u => by
    obtain ⟨oe, vs, he, hz, hd⟩ := f.there
    have J1 : Inv X pins σ H { s' with heap := h } := J.landed nb f.1 u os ag
    exact inv_adopt J1 he hz hd na n0 nL np0
  have toS : ∀ {σ : St} {H : Hp} {s : Shared}, Inv X pins σ H s → Inv (X.suite a (X.pn ++ pins)) [] σ H s := fun {σ H s} I =>
    ⟨I.ok.suite _ _, I.os, I.bare, I.base, I.loc, I.cell, I.free, I.freeC, fun p hp => I.pin p (by rw [List.append_nil] at hp; exact hp), I.hok, I.len⟩
  have ofS : ∀ {σ : St} {H : Hp} {s : Shared} {pn' : List (Addr × Obj)}, Inv (X.suite a (X.pn ++ pins)) pn' σ H s → Inv X pins σ H s := fun {σ H s pn'} I =>
    ⟨ok, I.os, I.bare, I.base, I.loc, I.cell, I.free, I.freeC, fun p hp => I.pin p (List.mem_append_left _ hp), I.hok, I.len⟩
  obtain ⟨oe, vs, he, hz, hd⟩ := fl.there
  obtain ⟨wm, wk⟩ := w
  have I3 := land fl up
  have LT : PySem.W.Looks (model X.prog X.w) h3 (typeOf (.ref a)) cls := fun A Q E s k q => wpAny_typeOf_ref (k _ _ he) (by rw [hz.1]; exact q)
  have LM := PySem.W.exm_one (M := model X.prog X.w) I3.kIn LT wm
  refine wpAny_handleBy_cons (codeAny_handlers_test ?_) (by intro q; cases q)
  have name : ∀ {Q : Value → Shared → Prop} {E : Value → Shared → Prop}, Q c { s' with heap := h3 } → wpAny (model X.prog X.w) (X.A.mark (some (.ref a))) (eval (.Name x np) X.env) Q E { s' with heap := h3 } := fun {Q E} q => by
    obtain ⟨hg, hdbg, hm | ⟨hm, hv, hnn⟩⟩ := hc
    · exact ld_glob (X := X.suite a (X.pn ++ pins)) (toS I3) hg hm q hdbg
    · exact ld_blt (X := X.suite a (X.pn ++ pins)) (toS I3) hg hm hv q hnn hdbg
  refine name (LM.here (codeAny_handlers_suite_as (HandSPX.lands_againZ fl fun h4 fl4 up4 => ?_)))
  have I4 := land fl4 (up.trans up4)
  refine store_ok (X := X.suite a (X.pn ++ pins)) (v := .ref a) (toS I4) hN hi (.inl hln) rfl (fun s5 I5 => ?_) (.inr hln)
  refine wpAny_mono ((hsu a (X.pn ++ pins)).run [] s5 _ _ _ I5 (wk a na)) (fun f s6 hsp => ?_) (fun _ _ z => False.elim z)
  have last : ∀ {σ6 : St} {H6 : Hp} {Q : Shared → Prop}, Inv (X.suite a (X.pn ++ pins)) [] σ6 H6 s6 → (∀ s7, Inv X pins (σ6.set i none) H6 s7 → Q s7) →
      wpAny (model X.prog X.w) X.A (do bindName X.env n .none; unbindBehindTheSuite X.env n pos') (fun _ s7 => Q s7) X.xe s6 := fun {σ6 H6 Q} I6 hq => gone_ok (ofS I6) hN hi hln hq
  cases f with
  | next =>
    obtain ⟨σ6, H6, I6, q6⟩ := hsp
    exact last I6 fun s7 J7 => ⟨_, _, J7, q6⟩
  | brk =>
    obtain ⟨σ6, H6, I6, q6⟩ := hsp
    exact last I6 fun s7 J7 => ⟨_, _, J7, q6⟩
  | cont =>
    obtain ⟨σ6, H6, I6, q6⟩ := hsp
    exact last I6 fun s7 J7 => ⟨_, _, J7, q6⟩
  | ret u =>
    obtain ⟨v6, σ6, H6, I6, r6, q6⟩ := hsp
    exact last I6 fun s7 J7 => ⟨_, _, _, J7, r6, q6⟩
theorem ps_try_keep (hs : X.stack = X.env :: X.outer) (hf : X.env.frame = some X.env.locals) (hx : X.ex = []) (hN : X.N.Nodup) (hi : X.N[i]? = some n) (hln : X.env.kindOf n = some .local) (hc : Names X x c)
    (hb : ∀ (W : WX) (pn : List (Addr × Obj)) (xe : Value → Shared → Prop), Takes (X.tr pn xe) W → PSs (X.tr pn xe) body (tb W))
    (hsu : ∀ (a : Addr) (pn : List (Addr × Obj)), PSs (X.suite a pn) (b₀ :: suite) ts) :
    PS X (.Try body [.ExceptHandler (some (.Name x np)) (some n) (b₀ :: suite) pos'] [] [] pos) (fun D σ H => tb (wCat X.K c i ts D) D σ H) := by
  refine ⟨fun pins s σ H D I h => wpAny_Try_except ?_⟩
  have ok := I.ok
  have hfr : X.A.frames = some (X.env :: X.outer) := by rw [ok.frames, hs]
  refine wpAny_mono ((hb (wCat X.K c i ts D) (X.pn ++ pins) (fun e s₁ => wpAny (model X.prog X.w) X.A (noteFrame e X.env) (fun _ s₂ => wpAny (model X.prog X.w) X.A (setFlight e none) (fun _ s₃ =>
    wpAny (model X.prog X.w) X.A (handleBy e X.env [.ExceptHandler (some (.Name x np)) (some n) (b₀ :: suite) pos']) (SP X pins D) X.xe s₃) X.xe s₂) X.xe s₁) fun u s' xx => ?_).run [] s σ H D (I.toTry _) h) (fun f s1 hsp => ?_) fun e s1 he => he
  · obtain ⟨a, B, sI, pins', σ', H', cls, d, rfl, J', nb, up, sky, na, os, ag, w⟩ := xx
    have sky' : Sky B (X.env :: X.outer) a (Zc cls d) X.env.locals s'.heap := by rw [← hs]; exact sky
    exact Sky.land Zc.steady hfr hf sky' fun h3 fl up3 => clause_keeps hf hx hN hi hln hc hsu hs (J'.ofTry ok) nb (up.trans up3) na os ag fl w
  · cases f with
    | next =>
      obtain ⟨σ', H', J, q⟩ := hsp
      exact wpAny_execs_nil ⟨σ', H', J.ofTry ok, q⟩
    | brk =>
      obtain ⟨σ', H', J, q⟩ := hsp
      exact ⟨σ', H', J.ofTry ok, q⟩
    | cont =>
      obtain ⟨σ', H', J, q⟩ := hsp
      exact ⟨σ', H', J.ofTry ok, q⟩
    | ret u =>
      obtain ⟨v, σ', H', J, r, q⟩ := hsp
      exact ⟨v, σ', H', J.ofTry ok, r, q⟩
end
structure CatX (K : PySem.W.Frag) (mg : Str → Option Value) (n : Str) (cs : List Str) : Prop where
  ex : ∃ C, mg n = some (.ref C) ∧ ∀ m ∈ cs, ∀ a, ClsAt K m a → PySem.W.exmOne K (.ref a) (.ref C) = some true
theorem EnR.drop {K : PySem.W.Frag} {g : Gh} {env : En} {σ : St} (e : EnR K g env σ) (i : Nat) : EnR K g (env.set i Option.none) (σ.set i Option.none) := by
  have e1 := e.none i
  refine ⟨by rw [List.length_set, List.length_set]; exact e.len, fun j x q => ?_⟩
  by_cases h : i = j
  · subst h
    by_cases hi : i < env.length
    · rw [List.getElem?_set_self hi] at q
      cases q
    · rw [List.getElem?_eq_none (by simpa using hi)] at q
      cases q
  · obtain ⟨v, a, r⟩ := e1.at_ j x q
    exact ⟨v, by rw [List.getElem?_set_ne h]; exact a, r⟩
def tryEnds (D : DEnds) (w : W) : DEnds := { nx := fun e2 w2 => D.nx e2 (w2.as w), rt := fun d w2 => D.rt d (w2.as w), bk := fun e2 w2 => D.bk e2 (w2.as w), ct := fun e2 w2 => D.ct e2 (w2.as w) }
def suiteEnds (i : Nat) (D : DEnds) (w : W) : DEnds := { nx := fun e3 w3 => D.nx (e3.set i none) (w3.as w), rt := fun d w3 => D.rt d (w3.as w), bk := fun e3 w3 => D.bk (e3.set i none) (w3.as w), ct := fun e3 w3 => D.ct (e3.set i none) (w3.as w) }
def tryW (i : Nat) (cs : List Str) (ts : DTS) (D : DEnds) (w : W) : W :=
  { m := w.m, n := w.n, e := fun e2 C fs m k => C ∈ cs ∧ (fs.map List.isEmpty).getD false = false ∧ ts (suiteEnds i D w) (e2.set i (some (.exc C (fs.getD [])))) { m := m, n := k, e := w.e } }
def dTry (i : Nat) (cs : List Str) (tb ts : DTS) : DTS := fun D env w => tb (tryEnds D w) env (tryW i cs ts D w)
section
variable {X : Cx} {Wv : WX} {x n : Str} {i : Nat} {cs : List Str} {body suite : List Stmt} {b₀ : Stmt} {np pos pos' : Pos} {tb ts : DTS}
theorem ds_try (I : CatX X.K X.mg x cs) (hN : X.N.Nodup) (hs : X.stack = X.env :: X.outer) (hf : X.env.frame = some X.env.locals) (hx : X.ex = [])
    (hb : ∀ (W : WX) (pn : List (Addr × Obj)) (xe : Value → Shared → Prop), Takes (X.tr pn xe) W → DSs (X.tr pn xe) W body tb)
    (hsu : ∀ (a : Addr) (pn : List (Addr × Obj)), DSs (X.suite a pn) (fun _ _ _ _ => True) (b₀ :: suite) ts)
    (hi : X.N[i]? = some n := by rfl) (hln : X.env.kindOf n = some .local := by rfl) (hg : Gl X x := by rfl) (hdb : (x == ("__debug__" : Str)) = false := by decide) :
    DS X Wv (.Try body [.ExceptHandler (some (.Name x np)) (some n) (b₀ :: suite) pos'] [] [] pos) (dTry i cs tb ts) := by
  obtain ⟨C, hm, hcs⟩ := I.ex
  refine ⟨PS_imp (ps_try_keep (tb := fun W => liftS X.K W tb) (ts := liftS X.K (fun _ _ _ _ => True) ts) hs hf hx hN hi hln ⟨hg, hdb, .inl hm⟩ (fun W pn xe tk => (hb W pn xe tk).ps) (fun a pn => (hsu a pn).ps)) fun Dv σ H ⟨c, g, env, w, D, B, q, E⟩ => ?_⟩
  refine ⟨{ c with e := (tryW i cs ts D w).e }, g, env, tryW i cs ts D w, tryEnds D w, ⟨⟨B.R.imm, B.R.lck, B.R.mu, B.R.frm, B.R.pen, rfl⟩, B.E, fun env' σ' H' cls d g' l' E' px => ?_⟩, q, ⟨?_, ?_, ?_, ?_⟩⟩
  · obtain ⟨g2, w2, n2, fs, ⟨a2, k2, rfl⟩, l2, R2, ⟨hC, _, q2⟩, dd⟩ := px
    refine ⟨hcs n2 hC a2 k2, fun a na => ?_⟩
    have R3 := R2.alloc (o := ExcO a (.ref a2) d) na
    have l3 := Gh.add_le (o := ExcO a (.ref a2) d) (R2.noG na)
    have rx : Rep X.K (g2.add a (ExcO a (.ref a2) d)) (.ref a) (.exc n2 (fs.getD [])) := by
      cases d with
      | none =>
        cases (show fs = none from dd)
        exact .exc (od := none) (xs := []) k2 Gh.add_at rfl .nil
      | some dx =>
        obtain ⟨xs, ds, hne, hG, rf, rfl⟩ := (show ∃ xs ds, _ from dd)
        exact .exc (od := some dx) k2 Gh.add_at ⟨hne, l3.G _ _ hG⟩ (rf.le l3)
    refine ⟨c, _, env'.set i (some (.exc n2 (fs.getD []))), { m := w2.m, n := w2.n, e := w.e }, suiteEnds i D w, ⟨⟨R3.imm, R3.lck, R3.mu, R3.frm, R3.pen, B.R.ex⟩, ((E'.le l2).le l3).set rx, fun _ _ _ _ _ _ _ _ _ => trivial⟩, q2, ⟨?_, ?_, ?_, ?_⟩⟩
    · intro env3 w3 σ3 H3 g3 l4 B3 q3
      exact E.nx (env3.set i none) (w3.as w) (σ3.set i none) H3 g3 (((l'.trans l2).trans l3).trans l4) ⟨B3.R.out rfl rfl B.R.ex, B3.E.drop i, fun e4 s4 H4 cls4 d4 g5 l5 E5 p5 => B.X e4 s4 H4 cls4 d4 g5 ((((l'.trans l2).trans l3).trans l4).trans l5) E5 p5⟩ q3
    · intro v3 H3 ⟨g3, w3, d3, l4, R4, r4, q4⟩
      exact E.rt v3 H3 ⟨g3, w3.as w, d3, ((l'.trans l2).trans l3).trans l4, R4.out rfl rfl B.R.ex, r4, q4⟩
    · intro env3 w3 σ3 H3 g3 l4 B3 q3
      exact E.bk (env3.set i none) (w3.as w) (σ3.set i none) H3 g3 (((l'.trans l2).trans l3).trans l4) ⟨B3.R.out rfl rfl B.R.ex, B3.E.drop i, fun e4 s4 H4 cls4 d4 g5 l5 E5 p5 => B.X e4 s4 H4 cls4 d4 g5 ((((l'.trans l2).trans l3).trans l4).trans l5) E5 p5⟩ q3
    · intro env3 w3 σ3 H3 g3 l4 B3 q3
      exact E.ct (env3.set i none) (w3.as w) (σ3.set i none) H3 g3 (((l'.trans l2).trans l3).trans l4) ⟨B3.R.out rfl rfl B.R.ex, B3.E.drop i, fun e4 s4 H4 cls4 d4 g5 l5 E5 p5 => B.X e4 s4 H4 cls4 d4 g5 ((((l'.trans l2).trans l3).trans l4).trans l5) E5 p5⟩ q3
  · intro env3 w3 σ3 H3 g3 l4 B3 q3
    exact E.nx env3 (w3.as w) σ3 H3 g3 l4 ⟨B3.R.out rfl rfl B.R.ex, B3.E, fun e4 s4 H4 cls4 d4 g5 l5 E5 p5 => B.X e4 s4 H4 cls4 d4 g5 (l4.trans l5) E5 p5⟩ q3
  · intro v3 H3 ⟨g3, w3, d3, l4, R4, r4, q4⟩
    exact E.rt v3 H3 ⟨g3, w3.as w, d3, l4, R4.out rfl rfl B.R.ex, r4, q4⟩
  · intro env3 w3 σ3 H3 g3 l4 B3 q3
    exact E.bk env3 (w3.as w) σ3 H3 g3 l4 ⟨B3.R.out rfl rfl B.R.ex, B3.E, fun e4 s4 H4 cls4 d4 g5 l5 E5 p5 => B.X e4 s4 H4 cls4 d4 g5 (l4.trans l5) E5 p5⟩ q3
  · intro env3 w3 σ3 H3 g3 l4 B3 q3
    exact E.ct env3 (w3.as w) σ3 H3 g3 l4 ⟨B3.R.out rfl rfl B.R.ex, B3.E, fun e4 s4 H4 cls4 d4 g5 l5 E5 p5 => B.X e4 s4 H4 cls4 d4 g5 (l4.trans l5) E5 p5⟩ q3
end
end DL
namespace DL
open PySem PySem.Spec PyProof.Rows L2
def W.rzA (w : W) (C : Str) (fs : Option (List (Str × D))) : Prop := ∀ env, w.e env C fs w.m w.n
theorem Rel.exc {K : PySem.W.Frag} {c : Ck} {g : Gh} {w : W} {H : Hp} (R : Rel K c g w H) {a : Addr} {cls : Value} {d : Option Addr} (h : g.G a = some (ExcO a cls d)) : H a = some (ExcO a cls d) := by
  rcases R.imm a _ h with ⟨_, q⟩ | ⟨o, q, _⟩
  · exact q
  · obtain ⟨u, z⟩ := R.lck a o q
    rw [h] at z
    cases z
section
open PySem.W
variable {prog : Program} {wd : World} {A : Around} {EE : Value → Shared → Prop} {s : Shared} {K : PySem.W.Frag} {x D : Addr} {ox : Obj} {od : Option Obj}
theorem exc_class (C : ExcC K D) {R : Option Value → Shared → Prop} (kin : K.In s.heap) (J : InstAt s.heap x ox D od) (r : R (some (.ref D)) { s with toks := s.toks + 1 }) : wpAny (model prog wd) A (getAttr? (.ref x) "__class__") R EE s := by
  have fnd : findObj K D od "__class__" = some (.bind (.builtin "getset_descriptor.__get__") (.builtin "object.__class__")) := by
    have there : (clsIn K D).isSome = true := by obtain ⟨cd, hc, _⟩ := any_some C.hd; rw [hc]; rfl
    cases od with
    | none => exact findObj_dataN there C.ha C.hn C.ht
    | some o => exact findObj_data there C.ha C.hn C.ht
  obtain ⟨hp, gg, dd, tk, os⟩ := s
  have LT := J.type (M := model prog wd)
  have LA := looks_findIn (M := model prog wd) kin C.hg
  have LB := looks_findIn (M := model prog wd) kin C.hk
  have LF := looks_find (M := model prog wd) kin J fnd
  have LS : Looks (model prog wd) hp (isInstance (.ref x) (.type "BaseException")) true := LT.andThen (looks_subIn kin C.hs)
  have nh : (false && onTheHeap (Value.builtin "BaseException.__getattribute__")) = false := rfl
  have no : (Value.builtin "BaseException.__getattribute__" == Value.builtin "object.__getattribute__") = false := by decide +kernel
  have nb : (onTheHeap (Value.ref D) && Value.builtin "BaseException.__getattribute__" == Value.builtin "object.__getattribute__") = false := by rw [no]; rfl
  unfold getAttr? getAttrBy? getAttrBy
  refine wpAny_bind (wpAny_mkText (wpAny_bind (wpAny_attempt (wpAny_holding (wpAny_bind (LT.at (wpAny_bind (LA.at ?_))))))))
  show wpAny _ _ (if (onTheHeap (Value.ref D) && Value.builtin "BaseException.__getattribute__" == Value.builtin "object.__getattribute__") = true then _ else _) _ _ _
  rw [nb, if_neg Bool.false_ne_true]
  unfold getAttrByItsOwn hookBefore
  refine wpAny_bind ?_
  rw [if_pos (show onTheHeap (Value.ref D) = true from rfl)]
  refine LB.at ?_
  refine wpAny_bind (wpAny_attempt (wpAny_holding ?_))
  unfold callGetattribute
  rw [nh, if_neg Bool.false_ne_true]
  unfold boundAndCalled
  rw [PySem.F.excAttr_ValueError.ga.bind (.ref x)]
  refine wpAny_bind (wpAny_pure ?_)
  show wpAny _ _ (call (.builtin "BaseException.__getattribute__") [.ref x, .str "__class__" tk]) _ _ _
  refine wpAny_call (codeAny_call_builtin PySem.F.excAttr_ValueError.ga.plain PySem.F.entry_bexc_ga ?_)
  refine @check_slot (model prog wd) _ _ ⟨hp, gg, dd, tk + 1, os⟩ "BaseException.__getattribute__" "BaseException" "__getattribute__" (.ref x) [.str "__class__" tk] [] _ (by decide +kernel) (by decide +kernel) LS (PySem.F.args_bexc_ga (.ref x) (.str "__class__" tk)) ?_
  unfold Builtin.«object.__getattribute__»
  refine wpAny_bind (wpAny_of_eq (a := ((Value.ref x : Value), [Value.str "__class__" tk])) (by first | rfl | (simp only [slotArgs]; rfl)) ?_)
  refine wpAny_bind (wpAny_pure (wpAny_bind (LT.at (wpAny_bind (LF.at ?_)))))
  show wpAny _ _ (holding [Value.builtin "object.__class__"] (call (.builtin "getset_descriptor.__get__") [.builtin "object.__class__", .ref x, .ref D]) >>= ret) _ _ _
  refine wpAny_bind (wpAny_holding (wpAny_call (class_get (s := ⟨hp, gg, dd, tk + 1, os⟩) (ox := ox) (od := od) kin J C.hm ?_)))
  refine wpAny_pure ?_
  show wpAny _ _ (handedOut (.ref D)) _ _ _
  rw [handedOut_of (v := .ref D) rfl]
  first
    | exact wpAny_pure (wpAny_pure r)
    | exact wpAny_pure r
    | exact wpAny_pure (wpAny_bind (wpAny_pure (wpAny_pure r)))
theorem exc_kit (C : ExcC K D) : KitX K (.ref x) (.ref D) (fun h => InstAt h x ox D od) where
  ty := fun _ _ _ J => J.type
  it := fun _ _ kin _ => by
    obtain ⟨cdD, hcD, _⟩ := any_some C.hd
    unfold clsIn at hcD
    split at hcD
    · rename_i c1 d1 cd1 sl1 ho
      intro A1 Q1 E1 s1 k q
      unfold isType loadHead
      exact wpAny_bind (wpAny_loadPart (k _ _ (kin _ _ ho)) (wpAny_pure q))
    · cases hcD
  ne := fun h tp dd its n sl kin htp => by
    obtain ⟨cdD, hcD, _⟩ := any_some C.hd
    refine Bool.eq_false_iff.mpr fun q => ?_
    obtain rfl : D = tp := Value.ref.inj (beq_iff_eq.mp q)
    unfold clsIn at hcD
    split at hcD
    · rename_i c1 d1 cd1 sl1 ho
      cases (kin _ _ ho).symm.trans htp
    · cases hcD
  ca := fun kin J r => exc_class C kin J r
end
def XdAt (H : Hp) : Option Addr → Prop
  | none => True
  | some dx => ∃ fs, H dx = some (.xd fs)
section
variable {X : Cx}
theorem inst_exc {pins : List (Addr × Obj)} {σ : St} {H : Hp} {s : Shared} {a D : Addr} {d : Option Addr} (I : Inv X pins σ H s) (h : H a = some (ExcO a (.ref D) d)) (hd : XdAt H d) : ∃ oe od, PySem.W.InstAt s.heap a oe D od := by
  obtain ⟨oe, vs, hget, h1, h2, hv⟩ := (I.hok a _ h).1
  obtain ⟨oc, ob, oda, osl⟩ := oe
  dsimp only at h1 h2 hv
  subst h1 h2 hv
  cases ob with
  | none => exact ⟨_, none, hget, rfl, rfl, trivial⟩
  | some dx =>
    obtain ⟨fs, e⟩ := hd
    obtain ⟨mA, hns, _⟩ := (show ObjOk X.prog X.w H s.heap dx (.xd fs) from I.hok dx _ e)
    obtain ⟨od, ho, _⟩ := lookIn_ns hns
    exact ⟨_, some od, hget, rfl, rfl, ho⟩
def rIsX (K : PySem.W.Frag) : List V → Hp → VK → Prop := fun xs H Q => ∃ (a D : Addr) (d : Option Addr) (c : V) (cv : Value) (b : Bool), xs = [.ref a, c] ∧ (H a = some (ExcO a (.ref D) d) ∧ XdAt H d) ∧ ExcC K D ∧ ClsV c cv ∧ PySem.W.kitOne K (.ref D) cv = some b ∧ Q (.bl b) H
theorem call_isX : CallR X (.builtin "isinstance") (rIsX X.K) := by
  intro pins s σ H xs us Q I r h
  obtain ⟨a, D, d, c, cv, b, rfl, ha, C, hc, e, q⟩ := h
  obtain ⟨u1, u2, rfl, r1, r2⟩ := vals2 r
  cases (show u1 = Value.ref a from r1)
  have ec := hc.eq r2
  subst ec
  obtain ⟨oe, od, J⟩ := inst_exc I ha.1 ha.2
  exact PySem.W.kia_one (exc_kit C) I.kIn J e (fun z => nomatch z) fun tk => ⟨.bl b, H, I.tok tk, rfl, q⟩
end
structure EisX (K : PySem.W.Frag) (mg : Str → Option Value) (n : Str) (tab : List (Str × Bool)) : Prop where
  ex : ∃ C, mg n = some (.ref C) ∧ ∀ p ∈ tab, ∀ a, ClsAt K p.1 a → ExcC K a ∧ PySem.W.kitOne K (.ref a) (.ref C) = some p.2
theorem lookup_mem {tab : List (Str × Bool)} {m : Str} {b : Bool} (h : tab.lookup m = some b) : (m, b) ∈ tab := by
  induction tab with
  | nil => cases h
  | cons p r ih =>
    obtain ⟨k, v⟩ := p
    rw [List.lookup_cons] at h
    split at h
    · rename_i e
      cases h
      have e : m = k := by simpa using e
      rw [e]
      exact List.mem_cons_self
    · exact List.mem_cons_of_mem _ (ih h)
def lkT (tab : List (Str × Bool)) (m : Str) : Option Bool := tab.lookup m
def excIs (f : Str → Option Bool) (x : D) (P : Bool → Prop) : Prop := match x with
  | .exc m _ => ∃ b, f m = some b ∧ P b
  | _ => False
def cEis (f : Str → Option Bool) (C : Addr) : DRC := fun xs w Q => match xs with
  | [x, .ref c] => c = C ∧ excIs f x fun b => Q (.bl b) w
  | _ => False
theorem rep_exc {K : PySem.W.Frag} {c : Ck} {g : Gh} {w : W} {H : Hp} (R : Rel K c g w H) {v : V} {m : Str} {fs : List (Str × D)} (r : Rep K g v (.exc m fs)) : ∃ a D d, v = .ref a ∧ ClsAt K m D ∧ H a = some (ExcO a (.ref D) d) ∧ XdAt H d := by
  cases r with
  | @exc a D _ od xs _ k h f rf =>
    refine ⟨a, D, od, rfl, k, R.exc h, ?_⟩
    cases od with
    | none => trivial
    | some dx =>
      refine ⟨xs, ?_⟩
      rcases R.imm dx _ f.2 with ⟨_, q⟩ | ⟨o, q, _⟩
      · exact q
      · obtain ⟨u, z⟩ := R.lck dx o q
        rw [f.2] at z
        cases z
section
variable {X : Cx} {Wv : WX} {n : Str} {p p2 pos tp : Pos} {e : Expr} {t : DTE} {tab : List (Str × Bool)}
theorem cd_eis {f : Str → Option Bool} {C : Addr} (hk : ∀ m b a, f m = some b → ClsAt X.K m a → ExcC X.K a ∧ PySem.W.kitOne X.K (.ref a) (.ref C) = some b) : CallD X (.builtin "isinstance") (cEis f C) := by
  refine ⟨_, call_isX, fun c' g w H vs ds Q Qv R r q k => ?_⟩
  unfold cEis at q
  split at q
  · rename_i x a
    obtain ⟨rfl, q⟩ := q
    obtain ⟨v, u, rfl, r1, r2⟩ := r.two
    cases r2
    unfold excIs at q
    split at q
    · obtain ⟨b, hb, q⟩ := q
      obtain ⟨a0, D, dd, rfl, kD, hH⟩ := rep_exc R r1
      obtain ⟨h1, h2⟩ := hk _ b D hb kD
      exact ⟨a0, D, dd, _, _, b, rfl, hH, h1, .own _, h2, k _ _ ⟨g, w, _, .rfl, R, .bl b, q⟩⟩
    · exact q.elim
  · exact q.elim
def dEis (f : Str → Option Bool) (t : DTE) : DTE := fun env w Q => t env w fun x w1 => excIs f x fun b => Q (.bl b) w1
theorem de_eis (I : EisX X.K X.mg n tab) (hm : X.mg "isinstance" = none) (he : DE X Wv e t) (hg : Gl X "isinstance" := by rfl) (hg2 : Gl X n := by rfl) (hd2 : (n == ("__debug__" : Str)) = false := by decide)
    (hs : starEach (e :: [.Name n p2]) X.env = (false, eval e X.env) :: starEach [.Name n p2] X.env := by rfl) (hs2 : starEach ([.Name n p2]) X.env = (false, eval (.Name n p2) X.env) :: starEach [] X.env := by rfl) (hpl : (backTo pos (starEach [.Name n p2] X.env)).any (·.1) = false := by rfl) :
    DE X Wv (.Call (.Name "isinstance" p) [e, .Name n p2] [] pos) (dEis (lkT tab) t) := by
  obtain ⟨C, hmC, hk⟩ := I.ex
  refine DE_imp (de_callB (cd_eis (C := C) (f := (lkT tab)) fun m b a h1 h2 => hk (m, b) (lookup_mem h1) a h2) hm (da_cons he (da_cons (de_ref hmC hg2 hd2) da_nil hs2) hs) hg (by decide +kernel) (by decide) (by decide) hs hpl) fun env w Q h => ?_
  show t env w fun x w1 => C = C ∧ excIs (lkT tab) x fun b => Q (.bl b) w1
  have e : (fun x w1 => C = C ∧ excIs (lkT tab) x fun b => Q (.bl b) w1) = fun x (w1 : W) => excIs (lkT tab) x fun b => Q (.bl b) w1 := by
    funext x w1
    exact propext ⟨fun h => h.2, fun h => ⟨rfl, h⟩⟩
  rw [e]
  exact h
variable {n1 n2 n3 n4 : Str} {p1 p3 p4 : Pos} {t1 t2 t3 t4 : List (Str × Bool)} {kk : Nat}
end
theorem Ec.ofC {K : PySem.W.Frag} {mg : Str → Option Value} {h : Heap} {C : Addr} {R : Prop} (n : Str) (X : K.In h) (G : h.Ns mainGlobals mg) (a : PySem.W.nsIn K mainGlobals n = some (some (.ref C))) (r : ClsAt K n C → mg n = some (.ref C) → R) : R := r a (PySem.W.mg_of X G a)
theorem ExX.of {K : PySem.W.Frag} {mg : Str → Option Value} {n : Str} {C : Addr} (k : ClsAt K n C) (m : mg n = some (.ref C)) (a : PySem.W.keepIn K (.ref C) = true) (b : PySem.W.excIn K C [.type "ValueError", .type "Exception", .type "BaseException", .type "object"] "ValueError.__new__" = true)
    (c : PySem.W.subIn K (.ref C) (.type "BaseException") = some true) (d : PySem.W.typeIn K (.ref C) = some (.type "type")) : ExX K mg n := ⟨⟨C, k, m, a, b, c, d⟩⟩
theorem ExcC.of {K : PySem.W.Frag} {D : Addr} (hg : PySem.W.findIn K (.ref D) "__getattribute__" = some (some (.builtin "BaseException.__getattribute__"))) (hk : PySem.W.findIn K (.ref D) "__getattr__" = some none) (hs : PySem.W.subIn K (.ref D) (.type "BaseException") = some true) (hd : PySem.W.hasDictIn K D = true)
    (ha : PySem.W.findIn K (.ref D) "__class__" = some (some (.builtin "object.__class__"))) (hn : PySem.W.specialIn K (.builtin "object.__class__") "__get__" = some (some (.builtin "getset_descriptor.__get__"))) (ht : PySem.W.takesIn K (.builtin "object.__class__") = some true) (hm : PySem.W.mroIn K D (.type "object") = some true) : ExcC K D :=
  ⟨hg, hk, hs, hd, ha, hn, ht, hm⟩
def EisB (K : PySem.W.Frag) (C : Addr) (tab : List (Str × Bool)) : Prop := ∀ p ∈ tab, ∀ a, ClsAt K p.1 a → ExcC K a ∧ PySem.W.kitOne K (.ref a) (.ref C) = some p.2
theorem EisB.nil {K : PySem.W.Frag} {C : Addr} : EisB K C [] := fun _ h => nomatch h
theorem EisB.cons {K : PySem.W.Frag} {C A : Addr} {m : Str} {b : Bool} {tab : List (Str × Bool)} (k : ClsAt K m A) (x : ExcC K A) (e : PySem.W.kitOne K (.ref A) (.ref C) = some b) (r : EisB K C tab) : EisB K C ((m, b) :: tab) := fun p hp a ka => by
  rcases List.mem_cons.mp hp with rfl | hp
  · cases k.eq ka
    exact ⟨x, e⟩
  · exact r p hp a ka
theorem EisX.of {K : PySem.W.Frag} {mg : Str → Option Value} {n : Str} {C : Addr} {tab : List (Str × Bool)} (m : mg n = some (.ref C)) (b : EisB K C tab) : EisX K mg n tab := ⟨⟨C, m, b⟩⟩
theorem kit_own {K : PySem.W.Frag} {A C : Addr} {b : Bool} (hc : PySem.W.isClsIn K C = true) (ht : PySem.W.typeIn K (.ref C) = some (.type "type")) (hs : PySem.W.subIn K (.ref A) (.ref C) = some b) : PySem.W.kitCls K (.ref A) (.ref C) = some b := by
  unfold PySem.W.kitCls
  have hc : (PySem.W.clsIn K C).isSome = true := hc
  dsimp only
  rw [hc, ht]
  rw [if_pos (by simp)]
  exact hs
theorem kit_ne {K : PySem.W.Frag} {A C : Addr} {b : Bool} (hn : (A == C) = false) (hc : PySem.W.isClsIn K C = true) (ht : PySem.W.typeIn K (.ref C) = some (.type "type")) (hs : PySem.W.subIn K (.ref A) (.ref C) = some b) : PySem.W.kitOne K (.ref A) (.ref C) = some b := by
  unfold PySem.W.kitOne
  rw [if_neg (fun z => by
    have e : Value.ref A = Value.ref C := by simpa using z
    cases e
    simp at hn)]
  exact kit_own hc ht hs
theorem kit_eq {K : PySem.W.Frag} {A : Addr} : PySem.W.kitOne K (.ref A) (.ref A) = some true := by
  unfold PySem.W.kitOne
  rw [if_pos (by simp)]
theorem exm_own {K : PySem.W.Frag} {A C : Addr} (hb : PySem.W.subIn K (.ref C) (.type "BaseException") = some true) (hc : PySem.W.isClsIn K C = true) (ht : PySem.W.typeIn K (.ref C) = some (.type "type")) (hs : PySem.W.subIn K (.ref A) (.ref C) = some true) : PySem.W.exmOne K (.ref A) (.ref C) = some true := by
  unfold PySem.W.exmOne
  rw [hb]
  exact kit_own hc ht hs
def CatB (K : PySem.W.Frag) (C : Addr) (cs : List Str) : Prop := ∀ m ∈ cs, ∀ a, ClsAt K m a → PySem.W.exmOne K (.ref a) (.ref C) = some true
theorem CatB.nil {K : PySem.W.Frag} {C : Addr} : CatB K C [] := fun _ h => nomatch h
theorem CatB.cons {K : PySem.W.Frag} {C A : Addr} {m : Str} {cs : List Str} (k : ClsAt K m A) (e : PySem.W.exmOne K (.ref A) (.ref C) = some true) (r : CatB K C cs) : CatB K C (m :: cs) := fun p hp a ka => by
  rcases List.mem_cons.mp hp with rfl | hp
  · cases k.eq ka
    exact e
  · exact r p hp a ka
theorem CatX.of {K : PySem.W.Frag} {mg : Str → Option Value} {n : Str} {C : Addr} {cs : List Str} (m : mg n = some (.ref C)) (b : CatB K C cs) : CatX K mg n cs := ⟨⟨C, m, b⟩⟩
end DL
namespace DL
open PySem PySem.Spec PyProof.Rows L2
structure EisY (K : PySem.W.Frag) (n : String) (tab : List (Str × Bool)) : Prop where
  ex : ∀ p ∈ tab, ∀ a, ClsAt K p.1 a → ExcC K a ∧ PySem.W.kitOne K (.ref a) (.type n) = some p.2
theorem EisY.nil {K : PySem.W.Frag} {n : String} : EisY K n [] := ⟨fun _ h => nomatch h⟩
theorem kit_ty {K : PySem.W.Frag} {A : Addr} {n : String} {b : Bool} (hm : PySem.W.kitMeta n = true) (hs : PySem.W.subIn K (.ref A) (.type n) = some b) : PySem.W.kitOne K (.ref A) (.type n) = some b := by
  unfold PySem.W.kitOne
  rw [if_neg (fun z => by
    have e : Value.ref A = Value.type n := by simpa using z
    cases e)]
  unfold PySem.W.kitCls
  dsimp only
  rw [if_pos hm]
  exact hs
theorem EisY.cons {K : PySem.W.Frag} {A : Addr} {n : String} {m : Str} {b : Bool} {tab : List (Str × Bool)} (k : ClsAt K m A) (x : ExcC K A) (hm : PySem.W.kitMeta n = true) (hs : PySem.W.subIn K (.ref A) (.type n) = some b) (r : EisY K n tab) : EisY K n ((m, b) :: tab) := ⟨fun p hp a ka => by
  rcases List.mem_cons.mp hp with rfl | hp
  · cases k.eq ka
    exact ⟨x, kit_ty hm hs⟩
  · exact r.ex p hp a ka⟩
def cEisY (f : Str → Option Bool) (n : String) : DRC := fun xs w Q => match xs with
  | [x, .ty m] => m = n ∧ excIs f x fun b => Q (.bl b) w
  | _ => False
section
variable {X : Cx} {Wv : WX} {n : String} {p p2 pos tp : Pos} {e : Expr} {t : DTE} {tab : List (Str × Bool)}
theorem cd_eisY (I : EisY X.K n tab) : CallD X (.builtin "isinstance") (cEisY (lkT tab) n) := by
  refine ⟨_, call_isX, fun c' g w H vs ds Q Qv R r q k => ?_⟩
  unfold cEisY at q
  split at q
  · obtain ⟨rfl, q⟩ := q
    obtain ⟨v, u, rfl, r1, r2⟩ := r.two
    cases r2
    unfold excIs at q
    split at q
    · obtain ⟨b, hb, q⟩ := q
      obtain ⟨a0, D, dd, rfl, kD, hH⟩ := rep_exc R r1
      obtain ⟨h1, h2⟩ := I.ex _ (lookup_mem hb) D kD
      exact ⟨a0, D, dd, _, _, b, rfl, hH, h1, .ty _, h2, k _ _ ⟨g, w, _, .rfl, R, .bl b, q⟩⟩
    · exact q.elim
  · exact q.elim
end
end DL
namespace DL
open PySem PySem.Spec PyProof.Rows L2
def shapedAll (ps : List PyData) : Bool := ps.all SeqAt.shaped
def countIn (xs : List D) (y : D) (w : W) (Q : DK) : Prop := ∃ ps p, toPyL xs = some ps ∧ toPy y = some p ∧ shapedAll ps = true ∧ SeqAt.shaped p = true ∧ Q (.int ((ps.countP fun q => PyData.eqv q p : Nat) : Int)) w
def countR : D → DRC := fun x ds w Q => match x, ds with
  | .lst xs, [y] => countIn xs y w Q
  | .ref p, [y] => ∃ xs, w.m p = some (.lst xs) ∧ countIn xs y w Q
  | _, _ => False
section
variable {X : Cx}
noncomputable def cntE (h : Heap) (p : PyData) (v : Value) : Bool := @decide (∃ q as, Reads h v q as ∧ PyData.eqv q p = true) (Classical.propDecidable _)
theorem cntE_of {h : Heap} {p q : PyData} {v : Value} {as : List Addr} (r : Reads h v q as) : cntE h p v = PyData.eqv q p := by
  unfold cntE
  rw [Bool.eq_iff_iff, @decide_eq_true_iff _ (Classical.propDecidable _)]
  constructor
  · rintro ⟨q', as', r', e⟩
    obtain ⟨rfl, _⟩ := Reads.unique r _ _ r'
    exact e
  · intro e
    exact ⟨q, as, r, e⟩
theorem cntE_all {h : Heap} {p : PyData} : ∀ {us : List Value} {ps : List PyData} {as : List Addr}, ReadsAll h us ps as → us.countP (cntE h p) = ps.countP fun q => PyData.eqv q p
  | _, _, _, .nil => rfl
  | _, _, _, .cons r t => by
    rw [List.countP_cons, List.countP_cons, cntE_all t, cntE_of r]
theorem reads_mem {h : Heap} : ∀ {us : List Value} {ps : List PyData} {as : List Addr}, ReadsAll h us ps as → ∀ u ∈ us, ∃ q bs, Reads h u q bs ∧ q ∈ ps
  | _, _, _, .nil => fun u hu => by cases hu
  | _, _, _, .cons r t => fun u hu => by
    rcases List.mem_cons.mp hu with rfl | hu
    · exact ⟨_, _, r, List.mem_cons_self⟩
    · obtain ⟨q, bs, a, b⟩ := reads_mem t u hu
      exact ⟨q, bs, a, List.mem_cons_of_mem _ b⟩
def rCntD (X : Cx) : V → List V → Hp → VK → Prop := fun x xs H Q => ∃ (c : Ck) (g : Gh) (w : W) (a : Addr) (ys : List V) (ds : List D) (u : V) (y : D) (ps : List PyData) (p : PyData), x = .ref a ∧ xs = [u] ∧ Rel X.K c g w H ∧ SqL X.K H a ys ∧ RepL X.K g ys ds ∧ Rep X.K g u y ∧
  toPyL ds = some ps ∧ toPy y = some p ∧ shapedAll ps = true ∧ SeqAt.shaped p = true ∧ Q (.int ((ps.countP fun q => PyData.eqv q p : Nat) : Int)) H
theorem mt_lcountD (hu : X.A.units + 150 < cLine) : MtR X "list.count" (rCntD X) := by
  intro pins s σ H x xs v us Q I rx rxs h
  obtain ⟨c, g, w, a, ys, ds, u, y, ps, p, rfl, rfl, R, hs, rl, r2, e1, e2, h1, h2, q⟩ := h
  cases rx
  obtain ⟨u', rfl, ru⟩ := rxs.one
  obtain ⟨its, rv, ⟨⟨cls, dd, data, sl⟩, n, ho, hc, hdn, hd⟩, hlen⟩ := I.list hs
  simp only at hc hd
  subst hc hd
  obtain ⟨as, ra, _⟩ := RepL.reads I R rl e1 rv
  obtain ⟨bs, rb, _⟩ := Rep.reads I R r2 e2 ru
  refine call_meets PySem.F.slot_list_count ⟨_, ho, rfl⟩ PySem.F.entry_list_count (PySem.F.args_list_count_2 _ _)
    (SeqAt.list_countAt a its.toArray n dd sl u' (cntE s.heap p)) ⟨ho, fun z hz => ?_, ?_⟩
  · obtain ⟨q', cs, rq, hm⟩ := reads_mem ra z (by simpa using hz)
    have hq := List.all_eq_true.mp h1 q' hm
    rw [cntE_of rq]
    refine SeqAt.eqAt_reads q' p _ s z u' cs bs rq rb (SeqAt.canLay_of_shaped hq) (SeqAt.canLay_of_shaped h2) (SeqAt.room_of_shaped hq ?_)
    show X.A.units + 1 + 64 < cLine
    omega
  · have ec : its.toArray.toList.countP (cntE s.heap p) = ps.countP fun q => PyData.eqv q p := cntE_all ra
    refine ⟨.int _, H, I.tok _, ⟨s.toks, ?_⟩, q⟩
    show Value.int ((its.toArray.toList.countP (cntE s.heap p) : Nat) : Int) s.toks = Value.int _ s.toks
    rw [ec]
theorem md_count (hu : X.A.units + 150 < cLine) : MtD X "list.count" countR := by
  refine ⟨_, mt_lcountD hu, fun c g w H v x vs ds Q Qv R r1 r2 q k => ?_⟩
  unfold countR at q
  split at q
  · obtain ⟨u, rfl, a⟩ := r2.one
    obtain ⟨ps, p, e1, e2, h1, h2, q⟩ := q
    cases r1 with
    | lst s r => exact ⟨c, g, w, _, _, _, u, _, ps, p, rfl, rfl, R, R.sqL s, r, a, e1, e2, h1, h2, k _ _ ⟨g, w, _, .rfl, R, .int _, q⟩⟩
  · obtain ⟨u, rfl, a⟩ := r2.one
    cases r1
    obtain ⟨xs, em, ps, p, e1, e2, h1, h2, q⟩ := q
    obtain ⟨ys, e3, r⟩ := R.mlst em
    exact ⟨c, g, w, _, _, _, u, _, ps, p, rfl, rfl, R, SqL.of e3, r, a, e1, e2, h1, h2, k _ _ ⟨g, w, _, .rfl, R, .int _, q⟩⟩
  · exact q.elim
end
end DL
namespace DL
open PySem PySem.Spec PyProof.Rows L2 PpSet
section
variable {X : Cx} {β : Type}
theorem Lk.fr {c c1 : Ck} {g : Gh} {p : Addr} {o : HO} (lk : Lk X c c1 g) : Lk X (c.fr p o) (c1.fr p o) g := by
  rcases lk with rfl | ⟨d, od, u, h1, h2, rfl, h4⟩
  · exact .inl rfl
  · exact .inr ⟨d, od, u, h1, h2, rfl, h4⟩
theorem Lk.noF {c c1 : Ck} {g : Gh} {p : Addr} (lk : Lk X c c1 g) (h : c1.F p = none) : c.F p = none := by
  rcases lk with rfl | ⟨d, od, u, h1, h2, rfl, h4⟩
  · exact h
  · exact h
end
section
variable {P : Program} {wd : World} {A : Around} {E : Value → Shared → Prop} {s : Shared} {a : Addr}
end
section
variable {X : Cx}
end
section
variable {X : Cx} {Wv : WX} {elt tg iter : Expr} {ifs : List Expr} {scope : Scope} {own : List (Str × Nat)} {sl : List Nat} {p pos pos2 : Pos} {ti : DTI} {gd : DTG} {tt : DTT} {te : DTE}
end
end DL
namespace DL
open PySem PySem.Spec PyProof.Rows L2
section
variable {X : Cx}
end
section
variable {X : Cx}
end
end DL
namespace DL
open PySem PySem.Spec PyProof.Rows L2
section
variable {X : Cx} {Wv : WX}
end
end DL
namespace DL
open PySem PySem.Spec PyProof.Rows L2
section
variable {X : Cx} {Wv : WX} {e : Expr} {te : TE} {t : DTE} {p pos apos cpos : Pos}
end
end DL
namespace DL
open PySem PySem.Spec PyProof.Rows L2
section
variable {X : Cx}
def extR : D → DRC := fun x ds w Q => match x, ds with
  | .ref p, [.ref b] => b ≠ p ∧ ∃ xs ys, w.m p = some (.lst xs) ∧ w.m b = some (.lst ys) ∧ xs.length + ys.length ≤ sizeLine ∧ Q .non ((w.put p (.lst (xs ++ ys))).del b)
  | _, _ => False
theorem md_extend : MtD X "list.extend" extR := by
  refine ⟨_, mt_extend, fun c g w H v x vs ds Q Qv R r1 r2 q k => ?_⟩
  unfold extR at q
  split at q
  · obtain ⟨u, rfl, a⟩ := r2.one; cases r1; cases a
    obtain ⟨hne, xs, ys, e, e2, h, q⟩ := q
    obtain ⟨us, e1, r⟩ := R.mlst e
    obtain ⟨us2, e3, r'⟩ := R.mlst e2
    have R2 := R.write e (.lst (r.append r'))
    obtain ⟨g2, l2, R3, _⟩ := R2.frz (show (w.put _ (.lst (xs ++ ys))).m _ = some (.lst ys) from (updM_ne hne).trans e2)
    exact ⟨_, _, _, _, rfl, rfl, e1, e3, by rw [r.length, r'.length]; exact h, k _ _ ⟨g2, _, .non, l2, R3, .non, q⟩⟩
  · exact q.elim
variable {Wv : WX} {o e : Expr} {es : List Expr} {to : DTE} {t : DTA} {id : String} {name : Str} {apos cpos : Pos} {r : D → DRC}
end
end DL
namespace DL
open PySem PySem.Spec PyProof.Rows L2
section
variable {X : Cx} {Wv : WX} {e tg : Expr} {t : DTE}
end
section
variable {X : Cx} {Wv : WX} {elt tg iter tg1 iter1 : Expr} {ifs ifs1 : List Expr} {scope : Scope} {own : List (Str × Nat)} {sl sl1 vs1 : List Nat} {pos : Pos} {ti ti1 : DTI} {gd gd1 : DTG} {tt tt1 : DTT} {te : DTE} {fin : List D → W → DK → Prop}
end
section
variable {X : Cx} {Wv : WX} {e : Expr} {te : DTE} {lo hi : Option Expr} {tl th : DTO} {pos p2 : Pos}
end
section
variable {X : Cx}
end
end DL
namespace DL
open PySem PySem.Spec PyProof.Rows L2
def oexIn (K : PySem.W.Frag) (C : Addr) : Bool := match K.lookup C with
  | some ⟨.type "type", _, .cls cd, sl⟩ => (match cd.mro, sl.toList with
    | .ref C1 :: bm, [_, _, _, _, some (.builtin n), _] => C1 == C && n == "ValueError.__new__" && !cd.hasDel && cd.hasDict && PySem.HandSPX.refsVE bm
    | _, _ => false)
  | _ => false
theorem oex_of {K : PySem.W.Frag} {C : Addr} (q : oexIn K C = true) (sa : PySem.W.findIn K (.ref C) "__setattr__" = some (some (.builtin "object.__setattr__"))) (ex : PySem.W.subIn K (.ref C) (.type "BaseException") = some true)
    (ty : PySem.W.typeIn K (.ref C) = some (.type "type")) (kp : PySem.W.keepIn K (.ref C) = true) : OexC K C := by
  refine ⟨?_, sa, ex, ty, kp⟩
  unfold oexIn at q
  split at q
  · rename_i dd cd sl ho
    split at q
    · rename_i C1 bm k0 k1 k2 k3 n k5 hm hs
      simp only [Bool.and_eq_true, beq_iff_eq, Bool.not_eq_true'] at q
      obtain ⟨⟨⟨⟨rfl, rfl⟩, hdel⟩, hdic⟩, ht⟩ := q
      obtain ⟨nm, bs, mro, ns, qn, hd, sn, sub, ab, col, del⟩ := cd
      dsimp only at hm hdel hdic
      subst hm hdel hdic
      have hsl : sl = #[k0, k1, k2, k3, some (.builtin "ValueError.__new__"), k5] := by
        obtain ⟨l⟩ := sl
        simp only at hs
        rw [hs]
      subst hsl
      exact ⟨nm, qn, ns, bs, bm, sn, sub, ab, col, dd, k0, k1, k2, k3, k5, ho, ht⟩
    · cases q
  · cases q
structure BasC (K : PySem.W.Frag) (mg : Str → Option Value) (n : Str) : Prop where
  ex : ∃ S, mg n = some (.ref S) ∧ PySem.W.specialIn K (.ref S) "__getattribute__" = some (some (.builtin "type.__getattribute__")) ∧ PySem.W.readsIn K S (.type "type") = true ∧ PySem.W.findCls K (.ref S) (.type "type") "__init__" = some (.val (.builtin "ValueError.__init__"))
section
variable {X : Cx} {e : Expr} {es : List Expr} {ta : TA} {n : Str} {p1 p2 pos : Pos}
end
def okN (num : Bool) (v : V) : Prop := num = true → ∃ i : Int, v = .int i ∧ i.natAbs.log2 < 1920
def exiSp (K : PySem.W.Frag) (C : Addr) (f : Str) (num : Bool) : Sp := fun vs H Q _ => ∃ a v, vs = [.ref a, v] ∧ okN num v ∧ H a = some (exo a C none) ∧ ∀ dx, H dx = none → dx ≠ a → Q .non (upd (upd H dx (exd dx [(f, v)])) a (exo a C (some dx)))
structure DExi (P : Program) (w : World) (K : PySem.W.Frag) (mg : Str → Option Value) (base : Heap) (k : Nat) (n f : Str) (num : Bool) : Prop where
  ex : ∃ (C fI : Addr) (fd : FuncData) (ps : List Str), ClsAt K n C ∧ mg n = some (.ref C) ∧ OexC K C ∧ PySem.W.findIn K (.ref C) "__init__" = some (some (.ref fI)) ∧ PySem.W.typeIn K (.ref fI) = some (.type "function") ∧
    FnG P w K mg base k fI fd ps (exiSp K C f num) ∧ Binds K fd ps []
theorem DExi.mono {P : Program} {w : World} {K : PySem.W.Frag} {mg : Str → Option Value} {base : Heap} {j k : Nat} {n f : Str} {num : Bool} (c : DExi P w K mg base j n f num) (h : j ≤ k) : DExi P w K mg base k n f num :=
  let ⟨C, fI, fd, ps, a, b, d, e, f, F, r⟩ := c.ex; ⟨C, fI, fd, ps, a, b, d, e, f, F.mono h, r⟩
structure FnEx (K : PySem.W.Frag) (mg : Str → Option Value) (n f qual : Str) (st : Stmt) (ps : List Str) : Prop where
  ex : ∃ (C fI : Addr) (fd : FuncData), ClsAt K n C ∧ mg n = some (.ref C) ∧ OexC K C ∧ PySem.W.findIn K (.ref C) "__init__" = some (some (.ref fI)) ∧ PySem.W.typeIn K (.ref fI) = some (.type "function") ∧ PySem.W.findIn K (.ref C) f = some none ∧
    Fun K "__init__" qual st fI fd ∧ Binds K fd ps []
section
variable {K : PySem.W.Frag} {h : Heap} {mg : Str → Option Value} {C g : Addr} {R : Prop} {oc : Value} {od an : Option Addr} {osl : Array (Option Value)} {kV doc pm cdv ct : Value}
theorem FnEx.ofC (n f qual : Str) (st : Stmt) (ps : List Str) (kC : ClsAt K n C) (hm : mg n = some (.ref C))
    (hb : ∀ (kV doc pm : Value) (an : Option Addr) (cdv ct : Value) (us : List Value), us.length = ps.length → bindArgs (PySem.W.fnOf "__init__" qual (defArgs st) (defBody st) (defScope st) .none kV doc pm an cdv ct) ⟨us, []⟩ = pure (ps.zip us))
    (ox : oexIn K C = true) (sa : PySem.W.findIn K (.ref C) "__setattr__" = some (some (.builtin "object.__setattr__"))) (ex : PySem.W.subIn K (.ref C) (.type "BaseException") = some true) (ty : PySem.W.typeIn K (.ref C) = some (.type "type")) (kp : PySem.W.keepIn K (.ref C) = true)
    (a : PySem.W.findIn K (.ref C) "__init__" = some (some (.ref g))) (i : PySem.W.isFn K (.ref g) = true) (nf : PySem.W.findIn K (.ref C) f = some none) (l : K.lookup g = some ⟨oc, od, .func (PySem.W.fnOf "__init__" qual (defArgs st) (defBody st) (defScope st) .none kV doc pm an cdv ct), osl⟩)
    (c : PySem.W.codeIn K cdv qual = true) (k : PySem.W.keepIn K (.ref g) = true) (r : FnEx K mg n f qual st ps → R) : R := by
  have F := fun_mk (x := "__init__") (st := st) l c k
  exact r ⟨⟨C, g, _, kC, hm, oex_of ox sa ex ty kp, a, beq_iff_eq.mp i, nf, F, F.binds hb⟩⟩
theorem BasC.of {n : Str} {S : Addr} (m : mg n = some (.ref S)) (ga : PySem.W.specialIn K (.ref S) "__getattribute__" = some (some (.builtin "type.__getattribute__"))) (rd : PySem.W.readsIn K S (.type "type") = true)
    (fc : PySem.W.findCls K (.ref S) (.type "type") "__init__" = some (.val (.builtin "ValueError.__init__"))) : BasC K mg n := ⟨⟨S, m, ga, rd, fc⟩⟩
end
section
variable {P : Program} {w : World} {K : PySem.W.Frag} {mg : Str → Option Value} {base : Heap}
end
section
variable {X : Cx} {x : Str} {e : Expr} {es : List Expr} {ta : TA} {p pos : Pos} {C fI : Addr} {k : Nat} {fd : FuncData} {ps : List Str} {f : Str} {num : Bool}
end
section
variable {X : Cx} {Wv : WX} {n f : Str} {num : Bool} {k : Nat} {p pos pos2 : Pos} {e : Expr} {es : List Expr} {t : DTA}
end
structure ExfX (K : PySem.W.Frag) (n f : Str) : Prop where
  ex : ∃ C, ClsAt K n C ∧ XfC K C ∧ PySem.W.findIn K (.ref C) f = some none
def dExf (n f : Str) (t : DTE) : DTE := fun env w Q => t env w fun x w1 => match x with
  | .exc m fs => m = n ∧ ∃ d, fs.lookup f = some d ∧ Q d w1
  | _ => False
section
variable {X : Cx} {Wv : WX} {n f : Str} {e : Expr} {t : DTE} {pos : Pos}
def tXfT (K : PySem.W.Frag) (f : Str) (te : TE) : TE := fun σ H Q => te σ H fun x H1 => ∃ (a C dd : Addr) (fs : List (Str × V)) (v : V), x = .ref a ∧ XfC K C ∧ PySem.W.findIn K (.ref C) f = some none ∧ H1 a = some (ExcO a (.ref C) (some dd)) ∧ H1 dd = some (.xd fs) ∧ fs.lookup f = some v ∧ Q v H1
theorem pe_xfT {te : TE} (he : PE X e te) (hb : attributeBase e f X.env (eval e X.env) = eval e X.env) : PE X (.Attribute e f pos) (tXfT X.K f te) := by
  refine ⟨fun pins s σ H Q I h => ?_⟩
  refine attr_of hb (thn (he.run pins s σ H _ I h) fun u s1 ⟨x, H1, I1, rx, a, C, dd, fs, v, ex, T, hno, ea, ed, l, q⟩ => ?_)
  subst ex
  obtain rfl : u = Value.ref a := rx
  obtain ⟨oe, vs, hget, h1, h2, hv⟩ := (I1.hok a _ ea).1
  have hx : ObjOk X.prog X.w H1 s1.heap dd (.xd fs) := I1.hok dd _ ed
  obtain ⟨mA, hns, hr⟩ := hx
  obtain ⟨od, ho, hl⟩ := lookIn_ns hns
  obtain ⟨u, hu, ru⟩ := RelO.some_of (v := v) (o := mA f) (by rw [← l]; exact hr f)
  have J : PySem.W.InstAt s1.heap a oe C (some od) := ⟨hget, h1, by unfold PySem.W.notCls; rw [hv] <;> rfl, by rw [h2]; exact ho⟩
  exact HandSPX.exc_get I1.kIn J T.ga T.gg T.exC (PySem.W.findObj_own T.hdC hno rfl (by rw [hl, hu])) (handed_of ru) ⟨v, H1, I1.tok _, ru, q⟩
theorem de_exf (F : ExfX X.K n f) (he : DE X Wv e t) (hb : attributeBase e f X.env (eval e X.env) = eval e X.env := by rfl) : DE X Wv (.Attribute e f pos) (dExf n f t) :=
  ⟨PE_imp (pe_xfT he.pe hb) fun σ H Qv ⟨c, g, env, w, Q, B, q, k⟩ => bindE B q fun v H1 g1 w1 x l1 B1 r1 q1 => by
    obtain ⟨C, hC, T, hno⟩ := F.ex
    cases r1 with
    | @exc a D m od xs ds kD s fx rf =>
      obtain ⟨rfl, d, e1, q2⟩ := q1
      cases hC.eq kD
      obtain ⟨u, e2, ru⟩ := rf.get e1
      cases od with
      | none =>
        cases (show xs = [] from fx)
        cases e2
      | some dx =>
        have hx : H1 dx = some (.xd xs) := by
          rcases B1.R.imm dx _ fx.2 with ⟨_, q⟩ | ⟨o, q, _⟩
          · exact q
          · obtain ⟨u', z⟩ := B1.R.lck dx o q
            rw [fx.2] at z
            cases z
        exact ⟨a, _, dx, xs, u, rfl, T, hno, B1.R.exc s, hx, e2, k _ _ ⟨g1, w1, d, l1, B1.R, ru, q2⟩⟩
    | _ => exact False.elim q1⟩
end
theorem ExfX.of {K : PySem.W.Frag} {n f : Str} {C : Addr} (k : ClsAt K n C) (a : PySem.W.findIn K (.ref C) "__getattribute__" = some (some (.builtin "BaseException.__getattribute__"))) (b : PySem.W.findIn K (.ref C) "__getattr__" = some none)
    (c : PySem.W.subIn K (.ref C) (.type "BaseException") = some true) (d : PySem.W.hasDictIn K C = true) (e : PySem.W.findIn K (.ref C) f = some none) : ExfX K n f := ⟨⟨C, k, ⟨a, b, c, d⟩, e⟩⟩
section
variable {X : Cx} {Wv : WX} {e v1 v2 : Expr} {t : DTE} {pos : Pos} {rest : List Expr}
inductive DJ (X : Cx) (Wv : WX) : List Expr → List DTE → Prop
  | nil : DJ X Wv [] []
  | cons {e : Expr} {t : DTE} {es : List Expr} {ts : List DTE} : DE X Wv e t → DJ X Wv es ts → DJ X Wv (e :: es) (t :: ts)
theorem DJ.pj {es : List Expr} {ts : List DTE} (h : DJ X Wv es ts) : PJ X es (ts.map (liftE X.K Wv)) := by
  induction h with
  | nil => exact .nil
  | cons a _ ih => exact .cons a.pe ih
end
end DL
namespace DL
open PySem PySem.Spec PyProof.Rows L2 LamX NdefX
abbrev lamF (X : Cx) (params : Arguments) (scope : Scope) (c1 : Addr) : NF := ⟨"<lambda>", X.env.qual ++ "<lambda>", params, [], scope, cloFrom X.env.cells scope.names [], c1⟩
def LamO (f : Addr) (F : NF) (body : Expr) : HO := .ext fun h => ∃ pm ctv, h.get? f = some (PySem.W.kla_obj "<lambda>" F.qual F.params body F.scope F.cl pm F.c ctv)
theorem lamO_ok {P : Program} {w : World} {H : Hp} {h : Heap} {f : Addr} {F : NF} {body : Expr} {pm ctv : Value} (e : h.get? f = some (PySem.W.kla_obj "<lambda>" F.qual F.params body F.scope F.cl pm F.c ctv)) : ObjOk P w H h f (LamO f F body) :=
  ⟨⟨pm, ctv, e⟩, ⟨_, e⟩, fun _ _ ⟨a, b, q⟩ k => ⟨a, b, k _ q⟩⟩
theorem Rel.ext {K : PySem.W.Frag} {c : Ck} {g : Gh} {w : W} {H : Hp} (R : Rel K c g w H) {a : Addr} {p : Heap → Prop} (h : g.G a = some (.ext p)) : H a = some (.ext p) := by
  rcases R.imm a _ h with ⟨_, q⟩ | ⟨o, q, _⟩
  · exact q
  · obtain ⟨u, z⟩ := R.lck a o q
    rw [h] at z
    cases z
theorem W.put_self {w : W} {a : Addr} {o : MO} (h : w.m a = some o) : w.put a o = w := by
  have e : updM w.m a o = w.m := by
    funext b
    unfold updM
    split
    · rename_i z; rw [z, h]
    · rfl
  show ({ w with m := updM w.m a o } : W) = w
  rw [e]
theorem upd_swap {H : Hp} {a b : Addr} {o u : HO} (h : a ≠ b) : upd (upd H a o) b u = upd (upd H b u) a o := by
  funext x
  by_cases h1 : x = b
  · subst h1; rw [upd_same, upd_ne (Ne.symm h), upd_same]
  · rw [upd_ne h1]
    by_cases h2 : x = a
    · subst h2; rw [upd_same, upd_same]
    · rw [upd_ne h2, upd_ne h2, upd_ne h1]
section
variable {X : Cx} {pins : List (Addr × Obj)} {σ : St} {H : Hp} {s : Shared} {c : Ck} {g : Gh} {w : W}
end
end DL
namespace DL
open PySem PySem.Spec PyProof.Rows L2 LamX NdefX
section
variable {X : Cx} {pins : List (Addr × Obj)} {σ : St} {H : Hp} {s : Shared}
end
theorem Vals.snoc {vs : List V} {us : List Value} {v : V} {u : Value} (r : Vals vs us) (a : RelV v u) : Vals (vs ++ [v]) (us ++ [u]) := r.append (.cons a .nil)
section
open PySem.W
variable {X : Cx} {pins : List (Addr × Obj)} {σ : St} {H : Hp} {s : Shared} {c : Ck} {g : Gh} {w : W} {A : Around} {E : Value → Shared → Prop} {a kS : Addr} {f : Value} {vs : List Value} {kz : List PyData} {P : PySem.Fin → Shared → Prop}
end
end DL
namespace DL
open PySem PySem.Spec PyProof.Rows L2 LamX NdefX
open PySem.W (AllAlike Sortable dataLe EachIs)
section
variable {X : Cx} {pins : List (Addr × Obj)} {σ : St} {H : Hp} {s : Shared} {c : Ck} {g : Gh} {w : W}
end
section
variable {X : Cx} {Wv : WX} {P c0 : Addr} {q : Str} {params : Arguments} {e body : Expr} {scope : Scope} {lpos kpos p pos : Pos} {a : Str} {fr : List Str} {js : List Nat} {k : Nat} {t te : DTE}
end
def CodeOf (K : PySem.W.Frag) (f c0 : Addr) : Prop := ∃ oc od fd osl, K.lookup f = some ⟨oc, od, .func fd, osl⟩ ∧ fd.code = .ref c0
structure TabX (K : PySem.W.Frag) (mg : Str → Option Value) (base : Heap) (x : Str) (P : Addr) : Prop where
  ex : ∀ f, mg x = some (.ref f) → ∃ c0, CodeOf K f c0 ∧ TabB base mg c0 P
structure TabXm (K : PySem.W.Frag) (mg : Str → Option Value) (base : Heap) (n m : Str) (P : Addr) : Prop where
  ex : ∀ C f, ClsAt K n C → PySem.W.findIn K (.ref C) m = some (some (.ref f)) → ∃ c0, CodeOf K f c0 ∧ TabB base mg c0 P
section
variable {P : Program} {w : World} {K : PySem.W.Frag} {mg : Str → Option Value} {base : Heap}
theorem fnG_ofC {x qual : Str} {st : Stmt} {f : Addr} {fd : FuncData} {N ps : List Str} {k : Nat} {sp : Sp} (F : Fun K x qual st f fd) (S : FnScope N ps (defScope st)) (len : ∀ vs H Q E, sp vs H Q E → vs.length = ps.length)
    (hbody : ∀ (cdv : Value), (∀ c0, CodeOf K f c0 → cdv = .ref c0) → ∀ (A : Around) (outer : List Env) (s : Shared) (H : Hp) (vs : List V) (Q : VK) (E : XK), Room k (A.deeper (envOfC qual (defScope st) s.heap.objs.size f cdv)) → A.guards = some [] → sp vs H Q E →
      ∃ t, PSs (cxOf (L2.CX P w) P w K mg base N qual (defScope st) f cdv A outer s H E) (defBody st) t ∧ t { nx := fun _ H' => Q .non H', rt := Q } (start N vs) H) : FnG P w K mg base (k + 1) f fd ps sp := by
  obtain ⟨oc, od, kV, doc, pm, an, cdv, ct, osl, rfl, lk, hcd⟩ := F.ex
  have hlink : ∀ c0, CodeOf K f c0 → cdv = .ref c0 := fun c0 ⟨oc2, od2, fd2, osl2, e, e2⟩ => by
    rw [lk] at e
    cases e
    exact e2
  refine ⟨len, fun A outer s H args us vs Q E hr hgd e0 hb r q0 => ?_⟩
  have hl := len _ _ _ _ q0
  have kin : K.In s.heap := e0.mod.kin.keeps fun b o e => (e0.bs b o e).1
  have nolim : s.heap.NoLimit := e0.mod.nolimit.keeps fun b o e => (e0.bs b o e).1
  refine codeAny_call_function hr.depth (kin _ _ lk) rfl S.co S.gen rfl (PySem.W.codeRec_of kin hcd) (hb _ _ _ _ ?_)
  refine wpAny_newFunctionEnv_cells S.kind (fun y hy => ?_) fun env he s1 x => ?_
  · obtain ⟨n, v⟩ := y
    cases S.par n (List.of_mem_zip hy).1 with
    | inl q => exact .inl q
    | inr q => exact .inr ⟨q, PySem.W.cellsFrom_some _ _ _ (.inl q)⟩
  · subst he
    refine ⟨nolim.keeps x.toInCall.keep, codeAny_func ?_⟩
    obtain ⟨t, ht, hq⟩ := hbody cdv hlink A outer s H vs Q E (hr.deeper _) hgd q0
    have J := inv_start (CX := L2.CX P w) (P := P) (w := w) (qual := qual) (f := f) (cd := cdv) (E := E) S hr.hd e0 hl r x
    refine wpAny_mono (ht.run [] s1 _ H _ J hq) (fun fl s' hs => ?_) fun e s' hs => hs
    have fin : ∀ {σ' : St} {H' : Hp} {v : V} {u : Value}, Inv (cxOf (L2.CX P w) P w K mg base N qual (defScope st) f cdv A outer s H E) [] σ' H' s' → RelV v u → Q v H' → CE outer P w H s Q u s' :=
      fun {_ H' v _} J rv q => ⟨v, H', J.os, J.bare, J.base, J.hok, rv, q⟩
    cases fl with
    | ret u =>
      obtain ⟨v, _, H', J, rv, q⟩ := hs
      exact fin J rv q
    | next =>
      obtain ⟨_, H', J, q⟩ := hs
      exact fin (v := V.non) (u := Value.none) J rfl q
    | brk => exact hs.elim fun _ h => h.elim fun _ h => h.2.elim
    | cont => exact hs.elim fun _ h => h.elim fun _ h => h.2.elim
theorem dfnC {x qual : Str} {st : Stmt} {f : Addr} {fd : FuncData} {N ps : List Str} {k : Nat} {sp : DSp} (F : Fun K x qual st f fd) (S : FnScope N ps (defScope st)) (len : ∀ ds w Q, sp ds w Q → ds.length = ps.length)
    (hbody : ∀ (cdv : Value), (∀ c0, CodeOf K f c0 → cdv = .ref c0) → ∀ (A : Around) (outer : List Env) (s : Shared) (H : Hp) (E : XK), Room k (A.deeper (envOfC qual (defScope st) s.heap.objs.size f cdv)) → A.guards = some [] →
      ∃ t, DSs (cxOf (L2.CX P w) P w K mg base N qual (defScope st) f cdv A outer s H E) (fun cls d _ H => E cls d H) (defBody st) t ∧
        ∀ ds (wd : W) Q, sp ds wd Q → t { nx := fun _ w' => Q .non w', rt := Q } (startD N.length ds) wd) : FnG P w K mg base (k + 1) f fd ps (liftSp K sp) := by
  refine fnG_ofC F S (fun vs H Q E h => ?_) fun cdv hl A outer s H vs Q E hr hgd h => ?_
  · obtain ⟨c, g, w, ds, Q0, R, r, h, _⟩ := h
    rw [r.length]
    exact len _ _ _ h
  · obtain ⟨t, ht, hq⟩ := hbody cdv hl A outer s H E hr hgd
    obtain ⟨c, g, wd, ds, Q0, R, r, h, k1, k3, k2⟩ := h
    refine ⟨_, ht.ps, c, g, _, wd, _, ⟨R, r.env N, fun env' σ' H' cls d g' l' e' px => k2 cls d H' g' l' (k3 env' ▸ px)⟩, hq ds wd Q0 h, ⟨fun env w σ H g' l' B q => ?_, k1, fun env w σ H g' l' B q => q.elim, fun env w σ H g' l' B q => q.elim⟩⟩
    exact k1 .non H ⟨g', w, .non, l', B.R, .non, q⟩
end
section
variable {X : Cx} {Wv : WX} {P c0 : Addr} {q : Str} {params : Arguments} {e body : Expr} {scope : Scope} {lpos kpos p pos : Pos} {a : Str} {fr : List Str} {js : List Nat} {k : Nat} {t te : DTE}
end
end DL
namespace DL
open PySem PySem.Spec PyProof.Rows L2 LamX
def Lmk (tp : Str → Addr) (n : Str) (w : W) : Prop := w.m (tp n) = some (.tab (n ++ ".<locals>.<lambda>"))
theorem Lmk.new {tp : Str → Addr} {n : Str} {w : W} (h : Lmk tp n w) {p : Addr} {o : MO} (hp : w.m p = none) : Lmk tp n (w.put p o) := by
  unfold Lmk
  rw [W.put_ne (fun z => by rw [Lmk, z, hp] at h; cases h)]
  exact h
theorem Lmk.ne {tp : Str → Addr} {n : Str} {w : W} (h : Lmk tp n w) {p : Addr} {o : MO} (hp : w.m p = some o) (ho : ∀ q, o ≠ .tab q) : tp n ≠ p := fun z => by
  rw [Lmk, z, hp] at h
  cases h
  exact ho _ rfl
def spLawT (ns : List Str) (tp : Str → Addr) : DSp := fun ds w Q => ∃ zs : List Int, ds = [.lst (zs.map .int)] ∧ zs.length ≤ 63 ∧ w.n = 0 ∧ (∀ n ∈ ns, Lmk tp n w) ∧ ∀ w', Q (.bl true) w'
abbrev Mkr := Str × Addr × Addr
def tpOf (ms : List Mkr) (n : Str) : Addr := match ms with
  | [] => 0
  | m :: r => if m.1 = n then m.2.2 else tpOf r n
def mem0 (ms : List Mkr) : Mem := fun b => match ms with
  | [] => none
  | m :: r => if m.2.2 = b then some (.tab (m.1 ++ ".<locals>.<lambda>")) else mem0 r b
theorem mem0_at : ∀ {ms : List Mkr} {b : Addr} {o : MO}, mem0 ms b = some o → b ∈ ms.map (·.2.2) ∧ ∃ q, o = .tab q
  | [], _, _, h => by cases h
  | m :: r, b, o, h => by
    unfold mem0 at h
    by_cases e : m.2.2 = b
    · rw [if_pos e] at h
      cases h
      exact ⟨by rw [← e]; exact List.mem_cons_self .., _, rfl⟩
    · rw [if_neg e] at h
      obtain ⟨h1, h2⟩ := mem0_at h
      exact ⟨List.mem_cons_of_mem _ h1, h2⟩
section
variable {P : Program} {w : World} {K : PySem.W.Frag} {mg mb : Str → Option Value} {k : Nat} {fa a : Addr} {x : Str} {s1 : Shared} {vs : List Value} {zs : List Int} {ms : List Mkr} {ns : List Str}
theorem law_runT (kin : K.In s1.heap) (hns : s1.heap.Ns mainGlobals mg) (hb : s1.heap.Ns builtinsNs mb) (hbb : ∀ x : Str, x ≠ "__name__" → mb x = bootBuiltins x) (hlim : s1.heap.NoLimit) (hg : s1.gens = #[])
    (hT : ∀ b ∈ ms.map (·.2.2), s1.heap.get? b = some { cls := .none, data := .fields #[] }) (nT : ∀ b ∈ ms.map (·.2.2), K.lookup b = none) (hC : ∀ m ∈ ms, PySem.W.CodeHd s1.heap m.2.1 m.2.2)
    (hbm : ∃ (bm : Addr) (ob : Obj), mg "__builtins__" = some (.ref bm) ∧ bm ≠ builtinsNs ∧ s1.heap.get? bm = some ob ∧ ob.cls = .type "module" ∧ ob.dict = some builtinsNs ∧ ob.data = .plain)
    (ha : s1.heap.get? a = some { cls := .type "list", data := .seq vs.toArray }) (hi : IntsAre vs zs) (hl : zs.length ≤ 63) (hr : Room k callerA) (hms : ∀ n ∈ ns, mem0 ms (tpOf ms n) = some (.tab (n ++ ".<locals>.<lambda>")))
    (hfa : mg x = some (.ref fa)) (F : ∀ base : Heap, K.In base → base.Ns mainGlobals mg → (∀ m ∈ ms, TabB base mg m.2.1 m.2.2) → DCal P w K mg base k x 1 (spLawT ns (tpOf ms))) :
    codeAny (model P w) callerA (.call (.ref fa) ⟨[.ref a], []⟩) (fun r s2 => r = .ok (.ret (.bool true)) ∧ OldK s1.heap s2.heap ∧ s2.os = s1.os ∧ AllBare s2.gens) s1 := by
  have rv := vals_ints hi
  have hz : zs.length ≤ sizeLine := Nat.le_trans hl (by decide)
  have aT : a ∉ ms.map (·.2.2) := fun z => by
    have q := hT a z
    rw [ha] at q
    cases (show Data.seq vs.toArray _ = Data.fields #[] from congrArg Obj.data (Option.some.inj q))
  have go : ∀ G0 : Hp, (∀ b, G0 b = none ∨ b = a ∧ G0 b = some (.frz { cls := .type "list", data := .seq vs.toArray } (.lst (zs.map V.int)))) → (G0 a ≠ none → K.lookup a = none) → SqL K G0 a (zs.map V.int) →
      codeAny (model P w) callerA (.call (.ref fa) ⟨[.ref a], []⟩) (fun r s2 => r = .ok (.ret (.bool true)) ∧ OldK s1.heap s2.heap ∧ s2.os = s1.os ∧ AllBare s2.gens) s1 := by
    intro G0 hO hK hS
    let H : Hp := fun b => if b ∈ ms.map (·.2.2) then some (.tbl #[]) else G0 b
    have HT : ∀ b, b ∈ ms.map (·.2.2) → H b = some (.tbl #[]) := fun b hb => if_pos hb
    have HG : ∀ b, b ∉ ms.map (·.2.2) → H b = G0 b := fun b hb => if_neg hb
    have GT : ∀ b, b ∈ ms.map (·.2.2) → G0 b = none := fun b hb => (hO b).elim id fun ⟨e, _⟩ => absurd (e ▸ hb) aT
    have GH : ∀ b u, G0 b = some u → H b = some u := fun b u e => by rw [HG b (fun z => by rw [GT b z] at e; cases e)]; exact e
    have none_of : ∀ {b : Addr} {o : Obj}, s1.heap.get? b = some o → (∀ us n, o.data ≠ .seq us n) → o.data ≠ .fields #[] → H b = none := fun {b o} e n1 n2 => by
      by_cases hb : b ∈ ms.map (·.2.2)
      · rw [hT b hb] at e; cases e; exact absurd rfl n2
      · rw [HG b hb]
        refine (hO b).elim id fun ⟨eb, _⟩ => ?_
        rw [eb, ha] at e
        cases e
        exact absurd rfl (n1 _ _)
    have dict_none : ∀ {b : Addr} {o : Obj} {es : Array DictEntry} {ep : Nat}, s1.heap.get? b = some o → o.data = .dict es ep → H b = none := fun {b o es ep} e d => none_of e (fun us n z => by rw [d] at z; cases z) fun z => by rw [d] at z; cases z
    have up : ∀ {b : Addr} {m : Str → Option Value}, s1.heap.Ns b m → (hidT s1.heap H).Ns b m := fun ⟨o, es, ep, e, d, r⟩ => ⟨o, es, ep, hidT_get e (dict_none e d), d, r⟩
    have kb : K.In (hidT s1.heap H) := fun b o e => hidT_get (kin b o e) (by
      by_cases hb : b ∈ ms.map (·.2.2)
      · rw [nT b hb] at e; cases e
      · rw [HG b hb]
        refine (hO b).elim id fun ⟨eb, z⟩ => ?_
        have := hK (by rw [← eb, z]; simp)
        rw [← eb, e] at this
        cases this)
    have lim : (hidT s1.heap H).NoLimit := let ⟨mc, h1, h2⟩ := hlim; ⟨mc, up h1, h2⟩
    have hok : HOk P w H s1.heap := fun b u e => by
      by_cases hb : b ∈ ms.map (·.2.2)
      · rw [HT b hb] at e; cases e; exact hT b hb
      · rw [HG b hb] at e
        rcases hO b with z | ⟨eb, z⟩
        · rw [z] at e; cases e
        · rw [z] at e
          cases e
          subst eb
          exact ⟨ha, by rw [List.length_map]; exact hz, vs, _, rv, ha⟩
    have TB : ∀ m ∈ ms, TabB (hidT s1.heap H) mg m.2.1 m.2.2 := fun m hm => by
      have hP := hT _ (List.mem_map.mpr ⟨m, hm, rfl⟩)
      refine ⟨?_, ?_, fun z => ?_⟩
      · obtain ⟨o, us, f1, f2, f3, f4, f5, f6, f7, e1, e2, e3, e4, r⟩ := hC m hm
        exact ⟨o, us, f1, f2, f3, f4, f5, f6, f7, hidT_get e1 (none_of e1 (fun us n z => by rw [e3] at z; cases z) fun z => by rw [e3] at z; cases z; simp at e4), e2, e3, e4, r⟩
      · obtain ⟨bm, ob, b1, b2, b3, b4, b5, b6⟩ := hbm
        refine ⟨bm, ob, b1, b2, fun q => ?_, fun q => ?_, hidT_get b3 (none_of b3 (fun us n z => by rw [b6] at z; cases z) fun z => by rw [b6] at z; cases z), b4, b5, b6⟩
        · obtain ⟨o, es, ep, e, d, _⟩ := hns
          rw [q, e] at b3
          cases b3
          rw [d] at b6
          cases b6
        · rw [q, hP] at b3
          cases b3
          cases b6
      · obtain ⟨o, es, ep, e, d, _⟩ := hns
        rw [z, hP] at e
        cases e
        cases d
    have e0 : Env0 P w K mg (hidT s1.heap H) callerA [] s1 H :=
      { frames := rfl, mod := ⟨kb, up hns, ⟨mb, up hb, hbb⟩, lim⟩, bs := fun b o e => of_hidT e, bsz := Nat.le_of_eq (hidT_size _ _), funs := trivial, frf := fun b hb => (List.not_mem_nil hb).elim, hok := hok, bare := .of_eq hg }
    obtain ⟨f1, fd, ps, FF, hm, _, bd, pl⟩ := (F _ kb (up hns) TB).ex
    rw [hfa] at hm
    cases hm
    have bt := bd s1 [.ref a] kin (by rw [pl]; rfl)
    have hsp : liftSp K (spLawT ns (tpOf ms)) [.ref a] H (fun v _ => v = .bl true) fun _ _ _ => False := by
      refine ⟨⟨fun _ => none, fun _ => none, noE⟩, ⟨G0, fun _ => false⟩, ⟨mem0 ms, 0, noE⟩, [.lst (zs.map .int)], fun d _ => d = .bl true, ⟨fun b u e => .inl ⟨rfl, GH b u e⟩, fun b o e => ?_, fun b m e => ?_, fun b o e => ?_, fun b e => ?_, rfl⟩,
        .cons (.lst hS (repInts zs)) .nil, ⟨zs, rfl, hl, rfl, fun n hn => hms n hn, fun _ => rfl⟩, fun v H2 ⟨g2, w2, d, _, _, r, q⟩ => ?_, fun _ => rfl, fun cls d H2 g2 _ ⟨_, _, _, _, _, _, _, z, _⟩ => z⟩
      · cases (show (none : Option Obj) = some o from e)
      · obtain ⟨h1, q, rfl⟩ := mem0_at e
        exact ⟨GT b h1, rfl, rfl, _, HT b h1, .tab trivial fun pos cv z => by
          have z : codeAmong pos [] = some cv := z
          simp [codeAmong] at z⟩
      · cases (show (none : Option HO) = some o from e)
      · cases (show false = true from e)
      · have q : d = .bl true := q
        subst q
        cases r
        rfl
    refine codeAny_mono (FF.run callerA [] s1 H _ [.ref a] [.ref a] _ _ hr rfl e0 bt (.cons rfl .nil) hsp) fun r s2 h => ?_
    match r, h with
    | .error e, ⟨_, _, _, _, _, _, _, _, _, _, _, _, z⟩ => exact z.elim
    | .ok (.ret u), ⟨v, H2, os, bare, un, hok2, r2, q⟩ =>
      have q : v = .bl true := q
      subst q
      have r2 : u = Value.bool true := r2
      subst r2
      have old : ∀ b o, b ∉ ms.map (·.2.2) → s1.heap.get? b = some o → s2.heap.get? b = some o := fun b o nb e => by
        rcases hO b with z | ⟨_, z⟩
        · exact un.keep b o e ((HG b nb).trans z) (fun m => List.not_mem_nil m) (fun m => List.not_mem_nil m)
        · have e1 := (hok b _ (GH b _ z)).1
          rw [e] at e1
          cases e1
          exact (hok2 b _ (un.frzs b _ _ (GH b _ z))).1
      have grown : ∀ b, b ∈ ms.map (·.2.2) → ∃ more : Array Value, s2.heap.get? b = some { cls := .none, data := .fields more } := fun b hb => by
        obtain ⟨more, z⟩ := un.tbls b #[] (HT b hb)
        exact ⟨_, hok2 b _ z⟩
      refine ⟨rfl, ⟨fun b o e => ?_, fun b o e => ?_⟩, os, bare⟩
      · by_cases nb : b ∈ ms.map (·.2.2)
        · obtain ⟨more, hm⟩ := grown b nb
          obtain ⟨m, hmm, em⟩ := List.mem_map.mp nb
          have e5 := hT b nb
          rw [e] at e5
          cases e5
          subst em
          exact .inr (.inl ⟨((hC m hmm).tab (hT _ nb)).isCodeTable, rfl, #[], more, rfl, by rw [Array.empty_append]; exact hm⟩)
        · exact .inl (old b o nb e)
      · by_cases nb : b ∈ ms.map (·.2.2)
        · obtain ⟨more, hm⟩ := grown b nb
          exact ⟨_, hm⟩
        · exact ⟨o, old b o nb e⟩
  cases hk : K.lookup a with
  | some o =>
    have e := kin a o hk
    rw [ha] at e
    cases e
    exact go (fun _ => none) (fun _ => .inl rfl) (fun z => absurd rfl z) (.inr ⟨_, vs.toArray, _, hk, rfl, rfl, rfl, by rw [List.size_toArray, hi.length]; exact hz, by simpa using rv⟩)
  | none =>
    refine go (upd (fun _ => none) a (.frz { cls := .type "list", data := .seq vs.toArray } (.lst (zs.map V.int)))) (fun b => ?_) (fun _ => hk) (.inl (.inr ⟨_, upd_same⟩))
    by_cases e : b = a
    · subst e; exact .inr ⟨rfl, upd_same⟩
    · exact .inl (upd_ne e)
end
theorem walkGT {l : PySem.W.OpenLaw} {k : Nat} {q : Program} {loose : List Str} {XP : (Str → Option Value) → Heap → Prop} {YP : World → Heap → Prop} {d : DefRec} {K : Params → PySem.W.Frag}
    (hn : l.most = some 63) (hdf : d.params.defaults = []) (hr : Room k callerA) (hY : ∀ (w : World) (h : Heap), YP w h → (K w.params).In h)
    (F : ∀ (w : World) (mg : Str → Option Value) (h : Heap), YP w h → (K w.params).In h → h.Ns mainGlobals mg → ∃ (ms : List Mkr) (ns : List Str), (∀ b ∈ ms.map (·.2.2), h.get? b = some { cls := .none, data := .fields #[] }) ∧ (∀ b ∈ ms.map (·.2.2), (K w.params).lookup b = none) ∧
      (∀ m ∈ ms, PySem.W.codeHdIn (K w.params) m.2.1 m.2.2 = true) ∧ (∀ n ∈ ns, mem0 ms (tpOf ms n) = some (.tab (n ++ ".<locals>.<lambda>"))) ∧
      ∀ base : Heap, (K w.params).In base → base.Ns mainGlobals mg → (∀ m ∈ ms, TabB base mg m.2.1 m.2.2) → DCal l.prog w (K w.params) mg base k d.name 1 (spLawT ns (tpOf ms))) :
    PySem.W.WalkO q loose XP YP l.row.toRowW d [] (fun f vs => PySem.call f vs) := by
  refine Att.attach_call hn hdf fun w s₀ s₁ mg mb fa o pm cd doc a vs ns G Y ho hd hcd hmg hobj hints hlen hg => ?_
  have KX := hY w _ Y
  obtain ⟨ms, nn, h1, h2, h3, h4, F⟩ := F w mg _ Y KX G.T.g
  exact law_runT KX G.T.g G.T.b G.T.builtins G.T.nolimit hg h1 h2 (fun m hm => PySem.W.codeHd_of_K KX (h3 m hm)) G.T.bmain hobj hints hlen hr h4 hmg F
def tabAt (o : Obj) : Option Addr := match o.data with
  | .fields vs => (match (vs[11]? : Option Value) with
    | some (.ref P) => some P
    | _ => none)
  | _ => none
section
variable {K : PySem.W.Frag} {h : Heap} {mg : Str → Option Value} {base : Heap} {f c0 P C : Addr} {R : Prop} {oc : Value} {od an : Option Addr} {osl : Array (Option Value)} {dV kV doc pm ct : Value} {o2 : Obj}
theorem MkrF.ofC {b : List Stmt} {sc : Scope} {params : Arguments} {nm qual : Str} (n : Str) (X : K.In h) (G : h.Ns mainGlobals mg) (a : PySem.W.nsIn K mainGlobals n = some (some (.ref f)))
    (l : K.lookup f = some ⟨oc, od, .func (PySem.W.fnOf nm qual params b sc dV kV doc pm an (.ref c0) ct), osl⟩) (l2 : K.lookup c0 = some o2) (p : tabAt o2 = some P) (hd : PySem.W.codeHdIn K c0 P = true) (nt : K.lookup P = none)
    (r : (∀ f1, mg n = some (.ref f1) → CodeOf K f1 c0) → PySem.W.codeHdIn K c0 P = true → K.lookup P = none → R) : R :=
  r (fun f1 e => by
    have e2 := PySem.W.mg_of X G a
    rw [e] at e2
    cases e2
    exact ⟨oc, od, _, osl, l, rfl⟩) hd nt
theorem MkrM.ofC {b : List Stmt} {sc : Scope} {params : Arguments} {nm qual : Str} (n m : Str) (X : K.In h) (G : h.Ns mainGlobals mg) (kC : ClsAt K n C) (a : PySem.W.findIn K (.ref C) m = some (some (.ref f)))
    (l : K.lookup f = some ⟨oc, od, .func (PySem.W.fnOf nm qual params b sc dV kV doc pm an (.ref c0) ct), osl⟩) (l2 : K.lookup c0 = some o2) (p : tabAt o2 = some P) (hd : PySem.W.codeHdIn K c0 P = true) (nt : K.lookup P = none)
    (r : (∀ C1 f1, ClsAt K n C1 → PySem.W.findIn K (.ref C1) m = some (some (.ref f1)) → CodeOf K f1 c0) → PySem.W.codeHdIn K c0 P = true → K.lookup P = none → R) : R :=
  r (fun C1 f1 k1 e => by
    cases kC.eq k1
    rw [a] at e
    cases e
    exact ⟨oc, od, _, osl, l, rfl⟩) hd nt
theorem TabX.of {ms : List Mkr} {n : Str} (l : ∀ f1, mg n = some (.ref f1) → CodeOf K f1 c0) (e : tpOf ms n = P) (b : TabB base mg c0 P) : TabX K mg base n (tpOf ms n) := ⟨fun f1 h => ⟨c0, l f1 h, e ▸ b⟩⟩
theorem TabXm.of {ms : List Mkr} {n m : Str} {x : Str} (l : ∀ C1 f1, ClsAt K n C1 → PySem.W.findIn K (.ref C1) m = some (some (.ref f1)) → CodeOf K f1 c0) (e : tpOf ms x = P) (b : TabB base mg c0 P) : TabXm K mg base n m (tpOf ms x) := ⟨fun C1 f1 h1 h2 => ⟨c0, l C1 f1 h1 h2, e ▸ b⟩⟩
end
end DL
namespace DL
open PySem PySem.Spec PyProof.Rows L2
section
variable {K : PySem.W.Frag} {c : Ck} {g : Gh} {w : W} {H : Hp} {p : Addr} {od : Obj} {xs : List (Key × V)} {kvs : List (Key × D)}
abbrev Ck.lm (c : Ck) (p : Addr) (od : Obj) (xs : List (Key × V)) : Ck := c.fr p (.frz od (.dK xs))
end
section
variable {X : Cx} {Wv : WX} {elt tg iter : Expr} {ifs : List Expr} {scope : Scope} {own : List (Str × Nat)} {sl : List Nat} {pos : Pos} {ti : DTE} {gd : DTG} {tt : DTT} {te : DTE} {fin : List D → W → DK → Prop}
end
end DL
namespace DL
open PySem PySem.Spec PyProof.Rows L2
section
variable {X : Cx} {Wv : WX} {n : Str} {p p2 pos tp : Pos} {e : Expr} {es : List Expr} {t : DTE} {tab : List (Str × Bool)} {ts : List (List (Str × Bool))} {kk : Nat}
end
end DL
namespace DL
open PySem PySem.Spec PyProof.Rows L2
section
variable {K : PySem.W.Frag} {c : Ck} {g g' : Gh} {w : W} {H H' : Hp}
theorem Rel.more (R : Rel K c g w H) (h : ∀ b o, H b = some o → H' b = some o) : Rel K c g w H' where
  imm := fun a u e => (R.imm a u e).imp (fun ⟨x, y⟩ => ⟨x, h _ _ y⟩) (fun ⟨o, x, y⟩ => ⟨o, x, h _ _ y⟩)
  lck := R.lck
  mu := fun a m e => let ⟨h1, h2, h3, o, h4, h5⟩ := R.mu a m e; ⟨h1, h2, h3, o, h _ _ h4, h5⟩
  frm := fun a o e => let ⟨h1, h2, h3⟩ := R.frm a o e; ⟨h _ _ h1, h2, h3⟩
  pen := fun a e => let ⟨h1, xs, h2, h3⟩ := R.pen a e; ⟨h1, xs, h _ _ h2, h3⟩
  ex := R.ex
theorem Rel.own (R : Rel K c g w H') {p : Addr} {u : HO} (hG : g.G p = none) (hm : w.m p = none) (hF : c.F p = none) (hP : g.pm p = false) (hp : H' p = some u) : Rel K c (g.add p u) w H' := by
  have le := Gh.add_le (o := u) hG
  refine ⟨fun a v e => ?_, fun a q e => ?_, fun a m e => ?_, fun a q e => ?_, fun a e => ?_, R.ex⟩
  · by_cases ha : a = p
    · subst ha
      have e' : upd g.G a u a = some v := e
      rw [upd_same] at e'; cases e'
      exact .inl ⟨R.noL hG, hp⟩
    · have e' : upd g.G p u a = some v := e
      rw [upd_ne ha] at e'
      exact R.imm a v e'
  · obtain ⟨u', q⟩ := R.lck a q e
    exact ⟨u', le.G _ _ q⟩
  · obtain ⟨h1, h2, h3, o', h4, h5⟩ := R.mu a m e
    have ha : a ≠ p := fun z => by rw [z, hm] at e; cases e
    exact ⟨by show upd g.G p u a = none; rw [upd_ne ha]; exact h1, h2, h3, o', h4, h5.le le⟩
  · obtain ⟨h1, h2, h3⟩ := R.frm a q e
    have ha : a ≠ p := fun z => by rw [z, hF] at e; cases e
    exact ⟨h1, by show upd g.G p u a = none; rw [upd_ne ha]; exact h2, h3⟩
  · obtain ⟨h1, xs, h2, h3⟩ := R.pen a e
    have ha : a ≠ p := fun z => by have e' : g.pm a = true := e; rw [z, hP] at e'; cases e'
    exact ⟨by show upd g.G p u a = none; rw [upd_ne ha]; exact h1, xs, h2, h3.le le (Nat.le_refl _)⟩
structure Nobody (c : Ck) (g : Gh) (w : W) (p : Addr) : Prop where
  G : g.G p = none
  m : w.m p = none
  F : c.F p = none
  P : g.pm p = false
theorem Nobody.add {p q : Addr} {u : HO} (h : Nobody c g w p) (n : p ≠ q) : Nobody c (g.add q u) w p := ⟨by show upd g.G q u p = none; rw [upd_ne n]; exact h.G, h.m, h.F, h.P⟩
end
section
variable {X : Cx} {Wv : WX} {e : Expr} {te : TE} {t : DTE} {p apos cpos pos : Pos}
end
abbrev mkrOf {K : PySem.W.Frag} {c0 P : Addr} (n : Str) (_ : PySem.W.codeHdIn K c0 P = true) : Mkr := (n, c0, P)
end DL
namespace DL
open PySem PySem.Spec PyProof.Rows L2
section
variable {prog : Program} {w : World} {A : Around} {E : Value → Shared → Prop} {s : Shared}
end
section
variable {X : Cx} {Wv : WX}
end
end DL
namespace DL
open PySem PySem.Spec PyProof.Rows L2
section
variable {X : Cx} {Wv : WX} {o : Expr} {to : DTE} {apos cpos : Pos}
end
section
variable {X : Cx} {Wv : WX} {e : Expr} {t : DTE} {p p2 pos pos2 : Pos}
end
end DL
namespace DL
open PySem PySem.Spec PyProof.Rows L2
def dPop1 (td ty : DTE) : DTE := fun env w Q => td env w fun x w1 => match x with
  | .ref p => (∃ kvs, w1.m p = some (.dic kvs)) ∧ ty env w1 fun y w2 => ∃ kvs k v, w2.m p = some (.dic kvs) ∧ keyOf y = some k ∧ valD kvs k = some v ∧ Q v (w2.put p (.dic (dropD kvs k)))
  | _ => False
section
variable {X : Cx} {Wv : WX} {o e f : Expr} {td ty tx : DTE} {apos cpos : Pos}
theorem de_dpop1 (ho : DE X Wv o td) (he : DE X Wv e ty) (m : M1 X o "pop" apos e cpos := by exact ⟨rfl, rfl, rfl, rfl⟩) : DE X Wv (.Call (.Attribute o "pop" apos) [e] [] cpos) (dPop1 td ty) :=
  ⟨PE_imp (pe_dpop1 ho.pe he.pe m) fun σ H Qv ⟨c, g, env, w, Q, B, q, k⟩ => bindE B q fun v H1 g1 w1 x l1 B1 r1 q1 => by
    cases r1 with
    | ref p =>
      obtain ⟨⟨kvs0, h0⟩, q2⟩ := (show (∃ kvs, w1.m p = some (.dic kvs)) ∧ _ from q1)
      obtain ⟨vs0, e0, _⟩ := B1.R.mdic h0
      refine ⟨p, rfl, .inl ⟨_, .inl e0⟩, bindE B1 q2 fun u H2 g2 w2 y l2 B2 r2 ⟨kvs, kk, v1, h3, hk, hv, q3⟩ => ?_⟩
      obtain ⟨vs, e1, rk⟩ := B2.R.mdic h3
      obtain ⟨rfl, rfl⟩ := r2.key hk
      rcases rk.val kk with ⟨_, e2⟩ | ⟨v', d', e3, e2, r'⟩
      · rw [hv] at e2; cases e2
      · rw [hv] at e2; cases e2
        exact ⟨vs, kk, v', e1, rfl, e3, k _ _ ⟨g2, _, _, l1.trans l2, B2.R.write h3 (.dic rk.drop), r', q3⟩⟩
    | _ => exact False.elim q1⟩
end
end DL
namespace DL
open PySem PySem.Spec PyProof.Rows L2
section
variable {P : Program} {wd : World} {A : Around} {E : Value → Shared → Prop} {s : Shared}
abbrev sk (P : Program) (wd : World) : KeyKind P wd Str := strKind P wd
abbrev hT (P : Program) (wd : World) (ks : List Str) : Int := tupleKeyHash (strKind P wd) ks
abbrev TupS (P : Program) (wd : World) (hp : Heap) (ks : List Str) (b : Addr) : Prop := IsTupleKey (strKind P wd) hp ks b
abbrev Row := Addr × List Str
def rowE (P : Program) (wd : World) (p : Row) : Int × Value := (hT P wd p.2, Value.ref p.1)
structure TSet (P : Program) (wd : World) (hp : Heap) (a : Addr) (M : List Row) (es : Array (Int × Value)) (ep : Nat) (t : SetTable) : Prop where
  here : ∃ ob, hp.get? a = some ob ∧ ob.ExactSet ∧ ob.data = .set es ep t
  row : es.toList = M.map (rowE P wd)
  tab : TabOk t (M.map fun p => hT P wd p.2)
  dis : (M.map (·.2)).Nodup
  key : ∀ p ∈ M, TupS P wd hp p.2 p.1
  led : wd.params.followText "set-order" = true ∨ t.led = true
  spc : M.length * 5 < t.mask * 3
  lim : M.length < 64
variable {a : Addr} {M : List Row} {es : Array (Int × Value)} {ep : Nat} {t : SetTable}
theorem TSet.len (T : TSet P wd s.heap a M es ep t) : es.size = M.length := by
  have z := congrArg List.length T.row
  rwa [Array.length_toList, List.length_map] at z
end
end DL
namespace DL
open PySem PySem.Spec PyProof.Rows L2
section
variable {P : Program} {wd : World} {A : Around} {E : Value → Shared → Prop} {s : Shared} {a : Addr}
structure GotR (R M : List Row) : Prop where
  sub : ∀ p ∈ M, p ∈ R
  all : ∀ p ∈ R, p.2 ∈ M.map (·.2)
theorem GotR.add {R M M' : List Row} {x : Row} (g : GotR R M) (h1 : x.2 ∈ M.map (·.2) → M' = M) (h2 : x.2 ∉ M.map (·.2) → M'.Perm (x :: M)) : GotR (R ++ [x]) M' := by
  by_cases h : x.2 ∈ M.map (·.2)
  · rw [h1 h]
    refine ⟨fun p hp => List.mem_append_left _ (g.sub p hp), fun p hp => ?_⟩
    rcases List.mem_append.mp hp with hp | hp
    · exact g.all p hp
    · rw [List.mem_singleton.mp hp]; exact h
  · have pm := h2 h
    refine ⟨fun p hp => ?_, fun p hp => ?_⟩
    · rcases List.mem_cons.mp (pm.mem_iff.mp hp) with z | z
      · exact List.mem_append_right _ (List.mem_singleton.mpr z)
      · exact List.mem_append_left _ (g.sub p z)
    · refine (pm.map (·.2)).mem_iff.mpr ?_
      rw [List.map_cons]
      rcases List.mem_append.mp hp with z | z
      · exact List.mem_cons_of_mem _ (g.all p z)
      · rw [List.mem_singleton.mp z]; exact List.mem_cons_self
structure TSet0 (P : Program) (wd : World) (hp : Heap) (a : Addr) (M : List Row) : Prop where
  ex : ∃ (es : Array (Int × Value)) (ep : Nat) (t : SetTable), (∃ ob, hp.get? a = some ob ∧ ob.ExactSet ∧ ob.data = .set es ep t) ∧ es.toList = M.map (rowE P wd) ∧ TabOk t (M.map fun p => hT P wd p.2) ∧
    (wd.params.followText "set-order" = true ∨ t.led = true) ∧ M.length * 5 < t.mask * 3
  dis : (M.map (·.2)).Nodup
  lim : M.length < 64
theorem TSet.low {hp : Heap} {M : List Row} {es : Array (Int × Value)} {ep : Nat} {t : SetTable} (T : TSet P wd hp a M es ep t) : TSet0 P wd hp a M := ⟨⟨es, ep, t, T.here, T.row, T.tab, T.led, T.spc⟩, T.dis, T.lim⟩
theorem TSet0.keep {hp h' : Heap} {M : List Row} (T : TSet0 P wd hp a M) (k : ∀ o, hp.get? a = some o → h'.get? a = some o) : TSet0 P wd h' a M :=
  let ⟨es, ep, t, ⟨ob, e, r⟩, h2⟩ := T.ex; ⟨⟨es, ep, t, ⟨ob, k ob e, r⟩, h2⟩, T.dis, T.lim⟩
def SetP (P : Program) (wd : World) (hp : Heap) (a : Addr) (R : List Row) : Prop := ∃ M, TSet0 P wd hp a M ∧ GotR R M
theorem SetP.keep {hp h' : Heap} {R : List Row} (T : SetP P wd hp a R) (k : ∀ o, hp.get? a = some o → h'.get? a = some o) : SetP P wd h' a R := let ⟨M, T, g⟩ := T; ⟨M, T.keep k, g⟩
end
section
variable {P : Program} {wd : World} {A : Around} {Y : Result → Shared → Prop} {I : Addr} {fp wr : List Addr} {G : Array GenState → Array GenState → Prop} {n : Nat} {Pn : Nat → Value → Prop} {St : Nat → Shared → Prop}
end
section
variable {P : Program} {wd : World} {A : Around} {E : Value → Shared → Prop} {s : Shared}
end
end DL
namespace DL
open PySem PySem.Spec PyProof.Rows L2 PpSet
section
variable {α : Type} [DecidableEq α]
end
abbrev Pr := Str × Str
def k2 (q : Pr) : List Str := [q.1, q.2]
section
variable {P : Program} {wd : World} {A : Around} {E : Value → Shared → Prop} {s : Shared} {r : Addr}
end
end DL
namespace DL
open PySem PySem.Spec PyProof.Rows L2 PpSet
section
variable {X : Cx}
end
section
variable {X : Cx} {Wv : WX} {e : Expr} {t : DTE} {p p2 pos pos2 : Pos}
end
end DL
namespace DL
open PySem PySem.Spec PyProof.Rows L2 PpSet
section
variable {X : Cx}
structure RowsOf (K : PySem.W.Frag) (g : Gh) (R : List Row) (acc : List Pr) : Prop where
  ks : R.map (·.2) = acc.map k2
  at_ : ∀ p ∈ R, SqT K g.G p.1 (p.2.map V.str)
theorem RowsOf.le {K : PySem.W.Frag} {g g' : Gh} {R : List Row} {acc : List Pr} (h : RowsOf K g R acc) (l : g.le g') : RowsOf K g' R acc := ⟨h.ks, fun p hp => SqT_le l (h.at_ p hp)⟩
variable {Wv : WX} {elt tg iter : Expr} {ifs : List Expr} {scope : Scope} {own : List (Str × Nat)} {sl : List Nat} {p pos pos2 : Pos} {ti : DTI} {gd : DTG} {tt : DTT} {te : DTE}
end
end DL
namespace DL
open PySem PySem.Spec PyProof.Rows L2 PpSet
section
variable {P : Program} {wd : World} {A : Around} {E : Value → Shared → Prop} {s : Shared} {r : Addr}
end
section
variable {X : Cx} {Wv : WX} {e : Expr} {te : TE} {t : DTE} {p pos apos cpos : Pos}
end
end DL
namespace DL
open PySem PySem.Spec PyProof.Rows L2
def Mk (m : Nat) : Prop := m = 7 ∨ m = 15 ∨ m = 31 ∨ m = 63 ∨ m = 127
end DL
namespace DL
open PySem PySem.Spec PyProof.Rows L2
section
variable {P : Program} {w : World} {A : Around} {E : Value → Shared → Prop} {s : Shared} {a : Addr} {o : Obj} {es : Array (Int × Value)} {ep : Nat} {t : SetTable}
theorem sizes {n : Nat} (h31 : n ≤ 63) : ∃ m, SetTable.sizeAbove (2 * n) - 1 = m ∧ Mk m ∧ 2 * n ≤ m ∧ SetTable.sizeAbove (2 * n) ≤ 128 := by
  have key : ∀ n, n < 64 → SetTable.sizeAbove (2 * n) ∈ [8, 16, 32, 64, 128] ∧ 2 * n < SetTable.sizeAbove (2 * n) := by decide +kernel
  obtain ⟨h1, h2⟩ := key n (by omega)
  simp only [List.mem_cons, List.not_mem_nil, or_false] at h1
  refine ⟨_, rfl, ?_, by omega, ?_⟩
  · rcases h1 with e | e | e | e | e <;> rw [e]
    · exact .inl rfl
    · exact .inr (.inl rfl)
    · exact .inr (.inr (.inl rfl))
    · exact .inr (.inr (.inr (.inl rfl)))
    · exact .inr (.inr (.inr (.inr rfl)))
  · rcases h1 with e | e | e | e | e <;> rw [e] <;> decide
end
end DL
namespace DL
open PySem PySem.Spec PyProof.Rows L2 PpSet
section
variable {X : Cx}
end
section
variable {P : Program} {w : World} {A : Around} {E : Value → Shared → Prop} {s : Shared}
end
section
variable {X : Cx} {e : Expr} {te : TE} {pos : Pos}
end
section
variable {X : Cx} {Wv : WX} {elt tg iter x : Expr} {ifs : List Expr} {scope : Scope} {own : List (Str × Nat)} {sl : List Nat} {p pos pos2 pos3 pos4 : Pos} {ti : DTI} {gd : DTG} {tt : DTT} {te tx : DTE}
end
end DL
namespace DL
open PySem PySem.Spec PyProof.Rows L2 LamX NdefX
open PySem.W (AllAlike Sortable dataLe EachIs)
section
variable {X : Cx} {pins : List (Addr × Obj)} {σ : St} {H : Hp} {s : Shared} {c : Ck} {g : Gh} {w : W}
end
section
variable {X : Cx} {Wv : WX} {P c0 : Addr} {q : Str} {params : Arguments} {e body : Expr} {scope : Scope} {lpos kpos p pos : Pos} {a : Str} {fr : List Str} {js : List Nat} {k : Nat} {t te : DTE}
end
end DL
namespace DL
open PySem PySem.Spec PyProof.Rows L2
section
variable {K : PySem.W.Frag} {g g2 : Gh} {q : Addr} {zs : List (Key × V)}
end
def tabM (m : Mem) : Mem := fun a => match m a with
  | some (.tab q) => some (.tab q)
  | _ => none
theorem tabM_some {m : Mem} {a : Addr} {o : MO} (h : tabM m a = some o) : ∃ q, o = .tab q ∧ m a = some (.tab q) := by
  unfold tabM at h
  split at h
  · rename_i q e
    cases h
    exact ⟨q, rfl, e⟩
  · cases h
def lentW (w : W) : W := ⟨tabM w.m, w.n, fun _ _ _ _ _ => False⟩
end DL
namespace DL
open PySem PySem.Spec PyProof.Rows L2
section
variable {X : Cx} {pins : List (Addr × Obj)} {σ : St} {H : Hp} {s : Shared} {c : Ck} {g : Gh} {w : W}
end
end DL
namespace DL
open PySem PySem.Spec PyProof.Rows L2
end DL
namespace DL
open PySem PySem.Spec PyProof.Rows L2
section
variable {X : Cx}
end
end DL
namespace DL
open PySem PySem.Spec PyProof.Rows L2
def atomD : D → Bool
  | .non => true
  | .bl _ => true
  | .int _ => true
  | .str _ => true
  | _ => false
theorem Rep.atom {K : PySem.W.Frag} {g g2 : Gh} {v : V} {d : D} (h : Rep K g v d) (n : atomD d = true) : Rep K g2 v d := by
  cases h with
  | non => exact .non
  | bl b => exact .bl b
  | int i => exact .int i
  | str x => exact .str x
  | _ => cases n
mutual
def npD : D → Bool
  | .pen => false
  | .lst xs => npL xs
  | .tup xs => npL xs
  | .dic kvs => npK kvs
  | .obj _ fs => npF fs
  | .exc _ fs => npF fs
  | _ => true
def npL : List D → Bool
  | [] => true
  | x :: r => npD x && npL r
def npK : List (Key × D) → Bool
  | [] => true
  | x :: r => npD x.2 && npK r
def npF : List (Str × D) → Bool
  | [] => true
  | x :: r => npD x.2 && npF r
end
section
variable {K : PySem.W.Frag} {g g2 : Gh}
mutual
theorem Rep.np (h : g2.G = g.G) : ∀ {v : V} {d : D}, Rep K g v d → npD d = true → Rep K g2 v d
  | _, _, .non, _ => .non
  | _, _, .bl b, _ => .bl b
  | _, _, .int i, _ => .int i
  | _, _, .str x, _ => .str x
  | _, _, .ty n, _ => .ty n
  | _, _, .lst s r, n => .lst (by rw [h]; exact s) (RepL.np h r n)
  | _, _, .tup s r, n => .tup (by rw [h]; exact s) (RepL.np h r n)
  | _, _, .dic s r, n => .dic (by rw [h]; exact s) (RepK.np h r n)
  | _, _, .obj k s r, n => .obj k (by rw [h]; exact s) (RepF.np h r n)
  | _, _, .ref a, _ => .ref a
  | _, _, .pen s, n => by cases n
  | _, _, .exc k s f r, n => .exc k (by rw [h]; exact s) (by rw [h]; exact f) (RepF.np h r n)
theorem RepL.np (h : g2.G = g.G) : ∀ {v : List V} {d : List D}, RepL K g v d → npL d = true → RepL K g2 v d
  | _, _, .nil, _ => .nil
  | _, _, .cons a r, n => by
    have n : (npD _ && npL _) = true := n
    rw [Bool.and_eq_true] at n
    exact .cons (Rep.np h a n.1) (RepL.np h r n.2)
theorem RepK.np (h : g2.G = g.G) : ∀ {v : List (Key × V)} {d : List (Key × D)}, RepK K g v d → npK d = true → RepK K g2 v d
  | _, _, .nil, _ => .nil
  | _, _, .cons a r, n => by
    have n : (npD _ && npK _) = true := n
    rw [Bool.and_eq_true] at n
    exact .cons (Rep.np h a n.1) (RepK.np h r n.2)
theorem RepF.np (h : g2.G = g.G) : ∀ {v : List (Str × V)} {d : List (Str × D)}, RepF K g v d → npF d = true → RepF K g2 v d
  | _, _, .nil, _ => .nil
  | _, _, .cons a r, n => by
    have n : (npD _ && npF _) = true := n
    rw [Bool.and_eq_true] at n
    exact .cons (Rep.np h a n.1) (RepF.np h r n.2)
end
end
end DL
namespace PySem
open PySem.W
section
variable {prog : Program} {w : World} {K : Type} [DecidableEq K] {knd : KeyKind prog w K} {A : Around} {E : Value → Shared → Prop} {s : Shared}
end
end PySem
namespace DL
open PySem PySem.Spec PyProof.Rows L2
section
variable {X : Cx} {tg e : Expr} {td : TE} {apos cpos : Pos}
end
section
variable {X : Cx} {Wv : WX} {e : Expr} {t : DTE} {apos cpos : Pos}
end
end DL
namespace DL
open PySem PySem.Spec PyProof.Rows L2
section
variable {X : Cx} {Wv : WX}
def dMakeM (n : Str) (sp : DSp) (t : DTA) : DTE := fun env w Q => t env w fun xs w1 => ∀ x dx, w1.m x = none → sp (.ref x :: xs) ((w1.put x (.ins n dx [])).inn env) fun d w2 => d = .non ∧ Q (.ref x) (w2.as w1)
theorem makeM_lift {n : Str} {dsp : DSp} {C : Addr} {dt : DTA} {σ : St} {H : Hp} {Qv : VK} (hC : ClsAt X.K n C) (h : liftE X.K Wv (dMakeM n dsp dt) σ H Qv) : tMakeG C (liftSp X.K dsp) Wv (liftA X.K Wv dt) σ H Qv := by
  obtain ⟨c, g, env, w, Q, B, q, kk⟩ := h
  refine bindA B q fun vs H1 g1 w1 xs l1 B1 r1 q1 => fun x dx hx hdx hne => ?_
  have hx' : (upd H1 dx (.own x)) x = none := by rw [upd_ne (Ne.symm hne)]; exact hx
  have R2 : Rel X.K c g1 (w1.put x (.ins n dx [])) (upd (upd H1 dx (.own x)) x (.ins C dx [])) := (B1.R.other hdx).allocM hx' (.ins hC .nil)
  have B2 : Bx X.K Wv c g1 env (w1.put x (.ins n dx [])) σ (upd (upd H1 dx (.own x)) x (.ins C dx [])) := ⟨R2, B1.E, B1.X⟩
  refine sp_lift (Q := fun d w2 => d = .non ∧ Q (.ref x) w2) B2 .rfl (fun v H' ⟨g2, w2, d, l2, R3, r2, hd, q2⟩ => ?_) (.cons (.ref x) r1) (q1 x dx (B1.R.noM hx))
  subst hd
  cases r2
  exact ⟨rfl, kk _ _ ⟨g2, _, _, l1.trans l2, R3, .ref x, q2⟩⟩
section
variable {n : Str} {p pos : Pos} {e : Expr} {es : List Expr} {k ar : Nat} {dsp : DSp} {dt : DTA}
end
end
end DL
namespace DL
open PySem PySem.Spec PyProof.Rows L2
def tokOf : Option Int → Option Value → Prop
  | some i, r => ∃ u, r = some (.int i u)
  | none, r => r = none
structure KdI (K : PySem.W.Frag) (w : World) (mg : Str → Option Value) (n : Str) (t : List (Str × Int)) : Prop where
  ex : ∃ d es m, mg n = some (.ref d) ∧ KDict K w d es m ∧ ∀ z, ∃ r, PySem.W.nsIn K d z = some r ∧ tokOf (t.lookup z) r
section
variable {X : Cx} {d : Addr} {es : Array DictEntry} {m : Nat} {t : List (Str × Int)}
variable {Wv : WX} {a b : Expr} {ta tb : DTE} {pos : Pos}
variable {o e f : Expr} {td ty tx : DTE} {apos cpos : Pos}
end
structure KtT (K : PySem.W.Frag) (mg : Str → Option Value) (n : Str) (xs : List Str) : Prop where
  ex : ∃ a o its sz, mg n = some (.ref a) ∧ K.lookup a = some o ∧ o.cls = .type "tuple" ∧ o.data = .seq its sz ∧ its.size ≤ sizeLine ∧ Vals (xs.map V.str) its.toList
theorem repL_strs {K : PySem.W.Frag} {g : Gh} : ∀ xs : List Str, RepL K g (xs.map V.str) (xs.map D.str)
  | [] => .nil
  | x :: r => .cons (.str x) (repL_strs r)
theorem KtT.rep {K : PySem.W.Frag} {mg : Str → Option Value} {n : Str} {xs : List Str} (T : KtT K mg n xs) : ∃ a, mg n = some (.ref a) ∧ ∀ g, Rep K g (.ref a) (.tup (xs.map D.str)) := by
  obtain ⟨a, o, its, sz, hm, hl, hc, hd, hz, hv⟩ := T.ex
  refine ⟨a, hm, fun g => .tup (xs := xs.map V.str) (.inr ⟨o, its, sz, hl, hc, hd, hz, hv⟩) ?_⟩
  exact repL_strs xs
def entsOk : List DictEntry → List (Str × Int) → Prop
  | [], [] => True
  | e :: r, (k, i) :: t => (∃ tk, e.key = .str k tk) ∧ (∃ u, e.val = .int i u) ∧ entsOk r t
  | _, _ => False
theorem ents_find : ∀ {l : List DictEntry} {t : List (Str × Int)}, entsOk l t → ∀ z, (l.any (·.refKey)) = false ∧ tokOf (t.lookup z) ((l.find? (·.key.isStr z)).map (·.val))
  | [], [], _, z => ⟨rfl, rfl⟩
  | e :: r, (k, i) :: t, ⟨⟨tk, h1⟩, ⟨u, h2⟩, h3⟩, z => by
    obtain ⟨a, b⟩ := ents_find h3 z
    have hr : e.refKey = false := by unfold DictEntry.refKey; rw [h1]
    have hs : e.key.isStr z = (k == z) := by rw [h1]; rfl
    refine ⟨by rw [List.any_cons, hr, a]; rfl, ?_⟩
    rw [List.find?_cons, List.lookup_cons, hs]
    by_cases hk : k = z
    · subst hk
      simp only [beq_self_eq_true]
      exact ⟨u, by rw [← h2]; rfl⟩
    · have e1 : (k == z) = false := by simpa using hk
      have e2 : (z == k) = false := by simpa using fun y => hk y.symm
      rw [e1, e2]
      exact b
  | [], _ :: _, h, _ => h.elim
  | _ :: _, [], h, _ => h.elim
theorem KdI.of {K : PySem.W.Frag} {w : World} {h : Heap} {mg : Str → Option Value} {n : Str} {d : Addr} {l : List DictEntry} {m : Nat} {t : List (Str × Int)} (X : K.In h) (G : h.Ns mainGlobals mg) (e : PySem.W.nsIn K mainGlobals n = some (some (.ref d)))
    (hl : K.lookup d = some ⟨.type "dict", none, .dict l.toArray m, #[]⟩) (lit : PySem.W.KeysLit w.params l) (low : (d == sysModules) = false) (ok : entsOk l t) : KdI K w mg n t := by
  refine ⟨d, l.toArray, m, PySem.W.mg_of X G e, ⟨hl, lit, low⟩, fun z => ?_⟩
  obtain ⟨a, b⟩ := ents_find ok z
  refine ⟨(l.find? (·.key.isStr z)).map (·.val), ?_, b⟩
  unfold PySem.W.nsIn
  rw [hl]
  show (match l.find? (·.key.isStr z) with | some e => some (some e.val) | none => if l.any (·.refKey) then none else some none) = _
  rw [a]
  cases l.find? (·.key.isStr z) <;> rfl
theorem KtT.of {K : PySem.W.Frag} {h : Heap} {mg : Str → Option Value} {n : Str} {a : Addr} {xs : List Str} {its : Array Value} {sz : Nat} {od : Option Addr} {sl : Array (Option Value)} (X : K.In h) (G : h.Ns mainGlobals mg) (e : PySem.W.nsIn K mainGlobals n = some (some (.ref a)))
    (hl : K.lookup a = some ⟨.type "tuple", od, .seq its sz, sl⟩) (hz : its.size ≤ sizeLine) (hv : Vals (xs.map V.str) its.toList) : KtT K mg n xs := ⟨a, _, its, sz, PySem.W.mg_of X G e, hl, rfl, rfl, hz, hv⟩
end DL
namespace DL
open PySem PySem.Spec PyProof.Rows L2
end DL
namespace DL
open PySem PySem.Spec PyProof.Rows L2
end DL
namespace DL
open PySem PySem.Spec PyProof.Rows L2
end DL
namespace DL
open PySem PySem.Spec PyProof.Rows L2
section
variable {X : Cx} {Wv : WX}
end
end DL
namespace DL
open PySem PySem.Spec PyProof.Rows L2
end DL
namespace DL
open PySem PySem.Spec PyProof.Rows L2
section
open PySem.AutoSeq1 (wpAny_loadPart')
open PySem.SeqAt
variable {A : Around} {s : Shared}
end
end DL
namespace DL
open PySem PySem.Spec PyProof.Rows L2
section
variable {X : Cx} {Wv : WX} {n : Str} {p pos : Pos} {k ar : Nat} {dsp : DSp}
theorem de_makeM0 (F : DMak X.prog X.w X.K X.mg X.base k n ar dsp) (hr : Room (k + 1) X.A) (hgd : X.A.guards = some []) (tk : Takes X Wv) (hg : Gl X n := by rfl)
    (hdb : (n == ("__debug__" : Str)) = false := by decide) : DE X Wv (.Call (.Name n p) [] [] pos) (dMakeM n dsp dNil) := by
  obtain ⟨C, f, fd, ps, hC, M, hm, FF, hb, _⟩ := F.ex
  refine ⟨PE_imp (t := tMakeG C (liftSp X.K dsp) Wv (liftA X.K Wv dNil)) ⟨fun pins s σ H Q I h => ?_⟩ fun σ H Qv h => makeM_lift hC h⟩
  obtain ⟨c, g, env, w, Qa, B, q, kk⟩ := h
  have h2 := kk [] H ⟨g, w, [], .rfl, B.R, .nil, q⟩
  refine wpAny_Call_Name_kw (ld_glob I hg hm ?_ hdb)
  exact PySem.W.callWith_K0 I.kIn M.kp (run_makeG (us := []) M FF hr hgd hb tk I .nil h2)
end
def TupAt (K : PySem.W.Frag) (a : Addr) (xs : List Str) : Prop := ∃ o its sz, K.lookup a = some o ∧ o.cls = .type "tuple" ∧ o.dict = none ∧ o.data = .seq its sz ∧ its.size ≤ sizeLine ∧ Vals (xs.map V.str) its.toList
structure KtN (K : PySem.W.Frag) (mg : Str → Option Value) (n : Str) (xs : List Str) : Prop where
  ex : ∃ a, mg n = some (.ref a) ∧ TupAt K a xs
theorem KtN.rep {K : PySem.W.Frag} {mg : Str → Option Value} {n : Str} {xs : List Str} (T : KtN K mg n xs) : ∃ a, mg n = some (.ref a) ∧ (∀ g, Rep K g (.ref a) (.tup (xs.map D.str))) ∧ TupAt K a xs := by
  obtain ⟨a, hm, t⟩ := T.ex
  obtain ⟨o, its, sz, hl, hc, h0, hd, hz, hv⟩ := id t
  exact ⟨a, hm, fun g => .tup (xs := xs.map V.str) (.inr ⟨o, its, sz, hl, hc, hd, hz, hv⟩) (repL_strs xs), t⟩
theorem KtN.of {K : PySem.W.Frag} {h : Heap} {mg : Str → Option Value} {n : Str} {a : Addr} {xs : List Str} {its : Array Value} {sz : Nat} {sl : Array (Option Value)} (X : K.In h) (G : h.Ns mainGlobals mg) (e : PySem.W.nsIn K mainGlobals n = some (some (.ref a)))
    (hl : K.lookup a = some ⟨.type "tuple", none, .seq its sz, sl⟩) (hz : its.size ≤ sizeLine) (hv : Vals (xs.map V.str) its.toList) : KtN K mg n xs := ⟨a, PySem.W.mg_of X G e, _, its, sz, hl, rfl, rfl, rfl, hz, hv⟩
section
variable {X : Cx} {Wv : WX} {n : Str} {xs : List Str} {a : Addr} {e : Expr} {ta : DTA} {np apos cpos : Pos}
end
end DL
namespace DL
open PySem PySem.Spec PyProof.Rows L2
end DL
namespace DL
open PySem PySem.Spec PyProof.Rows L2
section
variable {X : Cx} {Wv : WX} {o e : Expr} {to te : DTE} {apos pos : Pos}
end
end DL
namespace DL
open PySem PySem.Spec PyProof.Rows L2
mutual
inductive Sn (w : W) : D → D → Prop
  | same (d : D) : Sn w d d
  | dic {q : Addr} {ks ks2 : List (Key × D)} : w.m q = some (.dic ks) → SnK w ks ks2 → Sn w (.ref q) (.dic ks2)
  | lst {q : Addr} {xs ys : List D} : w.m q = some (.lst xs) → (∃ x ∈ xs, ∀ i, x ≠ .int i) → SnL w xs ys → Sn w (.ref q) (.lst ys)
  | ins {q C : Addr} {n : Str} {fs gs : List (Str × D)} : w.m q = some (.ins n C fs) → SnF w fs gs → Sn w (.ref q) (.obj n gs)
  | tl {xs ys : List D} : SnL w xs ys → Sn w (.lst xs) (.lst ys)
  | tt {xs ys : List D} : SnL w xs ys → Sn w (.tup xs) (.tup ys)
  | td {ks ks2 : List (Key × D)} : SnK w ks ks2 → Sn w (.dic ks) (.dic ks2)
  | to {n : Str} {fs gs : List (Str × D)} : SnF w fs gs → Sn w (.obj n fs) (.obj n gs)
inductive SnL (w : W) : List D → List D → Prop
  | nil : SnL w [] []
  | cons {x y : D} {xs ys : List D} : Sn w x y → SnL w xs ys → SnL w (x :: xs) (y :: ys)
inductive SnK (w : W) : List (Key × D) → List (Key × D) → Prop
  | nil : SnK w [] []
  | cons {k : Key} {x y : D} {xs ys : List (Key × D)} : Sn w x y → SnK w xs ys → SnK w ((k, x) :: xs) ((k, y) :: ys)
inductive SnF (w : W) : List (Str × D) → List (Str × D) → Prop
  | nil : SnF w [] []
  | cons {k : Str} {x y : D} {xs ys : List (Str × D)} : Sn w x y → SnF w xs ys → SnF w ((k, x) :: xs) ((k, y) :: ys)
end
theorem SnL.rfl {w : W} : ∀ {xs : List D}, SnL w xs xs
  | [] => .nil
  | x :: _ => .cons (.same x) SnL.rfl
theorem SnK.rfl {w : W} : ∀ {xs : List (Key × D)}, SnK w xs xs
  | [] => .nil
  | (_, x) :: _ => .cons (.same x) SnK.rfl
theorem SnF.rfl {w : W} : ∀ {xs : List (Str × D)}, SnF w xs xs
  | [] => .nil
  | (_, x) :: _ => .cons (.same x) SnF.rfl
structure SnE (w : W) (env env' : En) : Prop where
  len : env'.length = env.length
  at_ : ∀ (i : Nat) d', env'[i]? = some (some d') → ∃ d, env[i]? = some (some d) ∧ Sn w d d'
theorem SnE.rfl {w : W} {env : En} : SnE w env env := ⟨Eq.refl _, fun i d h => ⟨d, h, .same d⟩⟩
theorem SnE.set {w : W} {env e : En} (h : SnE w env e) (i : Nat) {d d' : D} (h1 : env[i]? = some (some d)) (h2 : Sn w d d') : SnE w env (e.set i (some d')) := by
  refine ⟨by rw [List.length_set]; exact h.len, fun j x q => ?_⟩
  by_cases c : i = j
  · subst c
    have hi : i < e.length := by rw [h.len]; exact (List.getElem?_eq_some_iff.mp h1).1
    rw [List.getElem?_set_self hi] at q
    cases q
    exact ⟨d, h1, h2⟩
  · rw [List.getElem?_set_ne c] at q
    exact h.at_ j x q
def mayLend : MO → Prop
  | .dic _ => True
  | .ins _ _ _ => True
  | .lst xs => ∃ x ∈ xs, ∀ i, x ≠ D.int i
  | _ => False
section
variable {K : PySem.W.Frag} {g g1 : Gh} {w : W} (hg : g.le g1) (hm : ∀ a m, w.m a = some m → mayLend m → ∃ o, g1.G a = some o ∧ RepM K g m o)
include hg hm
mutual
theorem Sn.rep : ∀ {v : V} {d d' : D}, Sn w d d' → Rep K g v d → Rep K g1 v d'
  | _, _, _, .same d, r => r.le hg
  | _, _, _, .dic e s, r => by
    cases r
    obtain ⟨o, h1, h2⟩ := hm _ _ e trivial
    cases h2 with
    | dic r => exact .dic h1 (SnK.rep s r)
  | _, _, _, .lst e n s, r => by
    cases r
    obtain ⟨o, h1, h2⟩ := hm _ _ e n
    cases h2 with
    | lst r => exact .lst (.inl (.inl h1)) (SnL.rep s r)
  | _, _, _, .ins e s, r => by
    cases r
    obtain ⟨o, h1, h2⟩ := hm _ _ e trivial
    cases h2 with
    | ins k r => exact .obj k h1 (SnF.rep s r)
  | _, _, _, .tl s, r => by
    cases r with
    | lst q r => exact .lst (SqL_le hg q) (SnL.rep s r)
  | _, _, _, .tt s, r => by
    cases r with
    | tup q r => exact .tup (SqT_le hg q) (SnL.rep s r)
  | _, _, _, .td s, r => by
    cases r with
    | dic q r => exact .dic (hg.G _ _ q) (SnK.rep s r)
  | _, _, _, .to s, r => by
    cases r with
    | obj k q r => exact .obj k (hg.G _ _ q) (SnF.rep s r)
theorem SnL.rep : ∀ {v : List V} {d d' : List D}, SnL w d d' → RepL K g v d → RepL K g1 v d'
  | _, _, _, .nil, r => by cases r; exact .nil
  | _, _, _, .cons s t, r => by
    cases r with
    | cons r q => exact .cons (Sn.rep s r) (SnL.rep t q)
theorem SnK.rep : ∀ {v : List (Key × V)} {d d' : List (Key × D)}, SnK w d d' → RepK K g v d → RepK K g1 v d'
  | _, _, _, .nil, r => by cases r; exact .nil
  | _, _, _, .cons s t, r => by
    cases r with
    | cons r q => exact .cons (Sn.rep s r) (SnK.rep t q)
theorem SnF.rep : ∀ {v : List (Str × V)} {d d' : List (Str × D)}, SnF w d d' → RepF K g v d → RepF K g1 v d'
  | _, _, _, .nil, r => by cases r; exact .nil
  | _, _, _, .cons s t, r => by
    cases r with
    | cons r q => exact .cons (Sn.rep s r) (SnF.rep t q)
end
end
end DL
namespace DL
open PySem PySem.Spec PyProof.Rows L2
section
open PySem.SeqAt
open AutoSeq1 (wpAny_loadPart')
open MeetsSeq MeetsSeq2 MeetsSeq3 SeqRoads2
variable {prog : Program} {w : World}
end
end DL
namespace DL
open PySem PySem.Spec PyProof.Rows L2
end DL
namespace DL
open PySem PySem.Spec PyProof.Rows L2
mutual
inductive SnP (w : W) : D → D → Prop
  | same {d : D} : npD d = true → SnP w d d
  | dic {q : Addr} {ks ks2 : List (Key × D)} : w.m q = some (.dic ks) → SnPK w ks ks2 → SnP w (.ref q) (.dic ks2)
  | lst {q : Addr} {xs ys : List D} : w.m q = some (.lst xs) → SnPL w xs ys → SnP w (.ref q) (.lst ys)
  | ins {q C : Addr} {n : Str} {fs gs : List (Str × D)} : w.m q = some (.ins n C fs) → SnPF w fs gs → SnP w (.ref q) (.obj n gs)
  | tl {xs ys : List D} : SnPL w xs ys → SnP w (.lst xs) (.lst ys)
  | tt {xs ys : List D} : SnPL w xs ys → SnP w (.tup xs) (.tup ys)
  | td {ks ks2 : List (Key × D)} : SnPK w ks ks2 → SnP w (.dic ks) (.dic ks2)
  | to {n : Str} {fs gs : List (Str × D)} : SnPF w fs gs → SnP w (.obj n fs) (.obj n gs)
inductive SnPL (w : W) : List D → List D → Prop
  | nil : SnPL w [] []
  | cons {x y : D} {xs ys : List D} : SnP w x y → SnPL w xs ys → SnPL w (x :: xs) (y :: ys)
inductive SnPK (w : W) : List (Key × D) → List (Key × D) → Prop
  | nil : SnPK w [] []
  | cons {k : Key} {x y : D} {xs ys : List (Key × D)} : SnP w x y → SnPK w xs ys → SnPK w ((k, x) :: xs) ((k, y) :: ys)
inductive SnPF (w : W) : List (Str × D) → List (Str × D) → Prop
  | nil : SnPF w [] []
  | cons {k : Str} {x y : D} {xs ys : List (Str × D)} : SnP w x y → SnPF w xs ys → SnPF w ((k, x) :: xs) ((k, y) :: ys)
end
theorem SnPL.same {w : W} : ∀ {xs : List D}, npL xs = true → SnPL w xs xs
  | [], _ => .nil
  | x :: r, h => by
    have h : (npD x && npL r) = true := h
    rw [Bool.and_eq_true] at h
    exact .cons (.same h.1) (SnPL.same h.2)
theorem SnPK.same {w : W} : ∀ {xs : List (Key × D)}, npK xs = true → SnPK w xs xs
  | [], _ => .nil
  | (_, x) :: r, h => by
    have h : (npD x && npK r) = true := h
    rw [Bool.and_eq_true] at h
    exact .cons (.same h.1) (SnPK.same h.2)
theorem SnPF.same {w : W} : ∀ {xs : List (Str × D)}, npF xs = true → SnPF w xs xs
  | [], _ => .nil
  | (_, x) :: r, h => by
    have h : (npD x && npF r) = true := h
    rw [Bool.and_eq_true] at h
    exact .cons (.same h.1) (SnPF.same h.2)
structure SnPE (w : W) (env env' : En) : Prop where
  len : env'.length = env.length
  at_ : ∀ (i : Nat) d', env'[i]? = some (some d') → ∃ d, env[i]? = some (some d) ∧ SnP w d d'
theorem SnPE.nil {w : W} {env : En} : SnPE w env (List.replicate env.length none) := by
  refine ⟨List.length_replicate, fun i d h => ?_⟩
  rw [List.getElem?_replicate] at h
  split at h <;> cases h
theorem SnPE.set {w : W} {env e : En} (h : SnPE w env e) (i : Nat) {d d' : D} (h1 : env[i]? = some (some d)) (h2 : SnP w d d') : SnPE w env (e.set i (some d')) := by
  refine ⟨by rw [List.length_set]; exact h.len, fun j x q => ?_⟩
  by_cases c : i = j
  · subst c
    have hi : i < e.length := by rw [h.len]; exact (List.getElem?_eq_some_iff.mp h1).1
    rw [List.getElem?_set_self hi] at q
    cases q
    exact ⟨d, h1, h2⟩
  · rw [List.getElem?_set_ne c] at q
    exact h.at_ j x q
def mayLendP : MO → Prop
  | .dic _ => True
  | .ins _ _ _ => True
  | .lst _ => True
  | _ => False
theorem SqL_G {K : PySem.W.Frag} {g g1 : Gh} (hg : ∀ a u, g.G a = some u → g1.G a = some u) {a : Addr} {xs : List V} (r : SqL K g.G a xs) : SqL K g1.G a xs := SqL_le (g := ⟨g.G, fun _ => false⟩) (g' := g1) ⟨hg, fun a e => by cases e⟩ r
theorem SqT_G {K : PySem.W.Frag} {g g1 : Gh} (hg : ∀ a u, g.G a = some u → g1.G a = some u) {a : Addr} {xs : List V} (r : SqT K g.G a xs) : SqT K g1.G a xs := SqT_le (g := ⟨g.G, fun _ => false⟩) (g' := g1) ⟨hg, fun a e => by cases e⟩ r
section
variable {K : PySem.W.Frag} {g g1 : Gh} {w : W} (hg : ∀ a u, g.G a = some u → g1.G a = some u) (hm : ∀ a m, w.m a = some m → mayLendP m → ∃ o, g1.G a = some o ∧ RepM K g m o)
include hg hm
mutual
theorem SnP.rep : ∀ {v : V} {d d' : D}, SnP w d d' → Rep K g v d → Rep K g1 v d'
  | _, _, _, .same n, r => Rep.le (g := ⟨g.G, fun _ => false⟩) (g' := g1) ⟨hg, fun a e => by cases e⟩ (Rep.np (g := g) (g2 := ⟨g.G, fun _ => false⟩) rfl r n)
  | _, _, _, .dic e s, r => by
    cases r
    obtain ⟨o, h1, h2⟩ := hm _ _ e trivial
    cases h2 with
    | dic r => exact .dic h1 (SnPK.rep s r)
  | _, _, _, .lst e s, r => by
    cases r
    obtain ⟨o, h1, h2⟩ := hm _ _ e trivial
    cases h2 with
    | lst r => exact .lst (.inl (.inl h1)) (SnPL.rep s r)
  | _, _, _, .ins e s, r => by
    cases r
    obtain ⟨o, h1, h2⟩ := hm _ _ e trivial
    cases h2 with
    | ins k r => exact .obj k h1 (SnPF.rep s r)
  | _, _, _, .tl s, r => by
    cases r with
    | lst q r => exact .lst (SqL_G hg q) (SnPL.rep s r)
  | _, _, _, .tt s, r => by
    cases r with
    | tup q r => exact .tup (SqT_G hg q) (SnPL.rep s r)
  | _, _, _, .td s, r => by
    cases r with
    | dic q r => exact .dic (hg _ _ q) (SnPK.rep s r)
  | _, _, _, .to s, r => by
    cases r with
    | obj k q r => exact .obj k (hg _ _ q) (SnPF.rep s r)
theorem SnPL.rep : ∀ {v : List V} {d d' : List D}, SnPL w d d' → RepL K g v d → RepL K g1 v d'
  | _, _, _, .nil, r => by cases r; exact .nil
  | _, _, _, .cons s t, r => by
    cases r with
    | cons r q => exact .cons (SnP.rep s r) (SnPL.rep t q)
theorem SnPK.rep : ∀ {v : List (Key × V)} {d d' : List (Key × D)}, SnPK w d d' → RepK K g v d → RepK K g1 v d'
  | _, _, _, .nil, r => by cases r; exact .nil
  | _, _, _, .cons s t, r => by
    cases r with
    | cons r q => exact .cons (SnP.rep s r) (SnPK.rep t q)
theorem SnPF.rep : ∀ {v : List (Str × V)} {d d' : List (Str × D)}, SnPF w d d' → RepF K g v d → RepF K g1 v d'
  | _, _, _, .nil, r => by cases r; exact .nil
  | _, _, _, .cons s t, r => by
    cases r with
    | cons r q => exact .cons (SnP.rep s r) (SnPF.rep t q)
end
end
open Classical in
theorem lend_inP {K : PySem.W.Frag} {Wv : WX} {c : Ck} {g : Gh} {env env' : En} {w : W} {σ : St} {H : Hp} (B : Bx K Wv c g env w σ H) (hs : SnPE w env env') :
    ∃ g1 F1, Bx K Wv ⟨c.L, F1, fun _ _ _ _ _ => False⟩ g1 env' (lentW w) σ H ∧
      ∀ g2 w1 H1, g1.le g2 → Rel K ⟨c.L, F1, fun _ _ _ _ _ => False⟩ g2 w1 H1 → (∀ a s, w.m a = some (.tab s) → w1.m a = some (.tab s)) → ∃ g3, g.le g3 ∧ Rel K c g3 w H1 := by
  have R := B.R
  let Lq : Addr → Prop := fun a => ∃ m, w.m a = some m ∧ mayLendP m
  have Lqm : ∀ a, Lq a → ∃ m, w.m a = some m ∧ ∀ s, m ≠ .tab s := fun a ⟨m, h, l⟩ => ⟨m, h, fun s z => by rw [z] at l; exact l⟩
  have LqR : ∀ a, Lq a → g.G a = none ∧ c.F a = none ∧ g.pm a = false ∧ c.L a = none ∧ ∃ o, H a = some o := fun a h => by
    obtain ⟨m, hm, _⟩ := Lqm a h
    obtain ⟨h1, h2, h3, o, h4, _⟩ := R.mu a m hm
    exact ⟨h1, h2, h3, R.noL h1, o, h4⟩
  let g1 : Gh := ⟨fun a => if Lq a then H a else g.G a, fun _ => false⟩
  have g1y : ∀ a, Lq a → g1.G a = H a := fun a h => if_pos h
  have g1n : ∀ a, ¬ Lq a → g1.G a = g.G a := fun a h => if_neg h
  have le1 : ∀ a u, g.G a = some u → g1.G a = some u := fun a u e => by
    have ha : ¬ Lq a := fun z => by rw [(LqR a z).1] at e; cases e
    rw [g1n a ha]
    exact e
  let F1 : Hp := fun a => if Lq a then none else if g.pm a = true then H a else match w.m a with
    | some (.tab _) => c.F a
    | some _ => H a
    | none => c.F a
  have F1c : ∀ a o, c.F a = some o → F1 a = some o := fun a o e => by
    have hm : w.m a = none := by
      cases z : w.m a with
      | none => rfl
      | some u => have := (R.mu a u z).2.1; rw [this] at e; cases e
    have ha : ¬ Lq a := fun z => by rw [(LqR a z).2.1] at e; cases e
    show (if Lq a then none else if g.pm a = true then H a else match w.m a with | some (.tab _) => c.F a | some _ => H a | none => c.F a) = _
    rw [if_neg ha, if_neg (by rw [(R.frm a o e).2.2]; exact nofun), hm]
    exact e
  have F1m : ∀ a m o, w.m a = some m → (∀ s, m ≠ .tab s) → ¬ Lq a → H a = some o → F1 a = some o := fun a m o e ht ha eH => by
    show (if Lq a then none else if g.pm a = true then H a else match w.m a with | some (.tab _) => c.F a | some _ => H a | none => c.F a) = _
    rw [if_neg ha, if_neg (by rw [(R.mu a m e).2.2.1]; exact nofun), e]
    cases m with
    | tab s => exact absurd rfl (ht s)
    | _ => exact eH
  have F1o : ∀ a o, F1 a = some o → ¬ Lq a ∧ ((c.F a = some o) ∨ (∃ m, w.m a = some m ∧ (∀ s, m ≠ .tab s) ∧ H a = some o) ∨ g.pm a = true ∧ H a = some o) := fun a o e => by
    have e : (if Lq a then none else if g.pm a = true then H a else match w.m a with | some (.tab _) => c.F a | some _ => H a | none => c.F a) = some o := e
    by_cases ha : Lq a
    · rw [if_pos ha] at e; cases e
    · rw [if_neg ha] at e
      refine ⟨ha, ?_⟩
      by_cases hp : g.pm a = true
      · rw [if_pos hp] at e
        exact .inr (.inr ⟨hp, e⟩)
      rw [if_neg hp] at e
      cases z : w.m a with
      | none => rw [z] at e; exact .inl e
      | some m =>
        rw [z] at e
        by_cases ht : ∃ s, m = .tab s
        · obtain ⟨s, rfl⟩ := ht
          exact .inl e
        · refine .inr (.inl ⟨m, rfl, fun s y => ht ⟨s, y⟩, ?_⟩)
          cases m with
          | tab s => exact absurd ⟨s, rfl⟩ ht
          | _ => exact e
  have R1 : Rel K ⟨c.L, F1, fun _ _ _ _ _ => False⟩ g1 (lentW w) H := by
    refine ⟨fun a u e => ?_, fun a o e => ?_, fun a m e => ?_, fun a o e => ?_, fun a e => ?_, rfl⟩
    · by_cases ha : Lq a
      · rw [g1y a ha] at e
        exact .inl ⟨(LqR a ha).2.2.2.1, e⟩
      · rw [g1n a ha] at e
        exact R.imm a u e
    · obtain ⟨u, z⟩ := R.lck a o e
      exact ⟨u, le1 _ _ z⟩
    · obtain ⟨s, em2, e2⟩ := tabM_some (show tabM w.m a = some m from e)
      subst em2
      obtain ⟨h1, h2, h3, o, h4, h5⟩ := R.mu a _ e2
      have ha : ¬ Lq a := fun z => by obtain ⟨m, y, ny⟩ := Lqm a z; rw [e2] at y; cases y; exact ny _ rfl
      refine ⟨by rw [g1n a ha]; exact h1, ?_, rfl, o, h4, by
        cases h5 with
        | tab t f => exact .tab t fun pos cv z => let ⟨cc, x, y⟩ := f pos cv z; ⟨cc, x, le1 _ _ y⟩⟩
      show (if Lq a then none else if g.pm a = true then H a else match w.m a with | some (.tab _) => c.F a | some _ => H a | none => c.F a) = _
      rw [if_neg ha, if_neg (by rw [h3]; exact nofun), e2]
      exact h2
    · obtain ⟨ha, e⟩ := F1o a o e
      rcases e with z | ⟨m, z, _, zH⟩ | ⟨zp, zH⟩
      · obtain ⟨h1, h2, h3⟩ := R.frm a o z
        exact ⟨h1, by rw [g1n a ha]; exact h2, rfl⟩
      · obtain ⟨h1, h2, h3, _⟩ := R.mu a m z
        exact ⟨zH, by rw [g1n a ha]; exact h1, rfl⟩
      · exact ⟨zH, by rw [g1n a ha]; exact (R.pen a zp).1, rfl⟩
    · cases e
  have hm : ∀ a m, w.m a = some m → mayLendP m → ∃ o, g1.G a = some o ∧ RepM K g m o := fun a m e l => by
    obtain ⟨_, _, _, o, h4, h5⟩ := R.mu a m e
    exact ⟨o, (g1y a ⟨m, e, l⟩).trans h4, h5⟩
  have B1 : Bx K Wv ⟨c.L, F1, fun _ _ _ _ _ => False⟩ g1 env' (lentW w) σ H := by
    refine ⟨R1, ⟨hs.len.trans B.E.len, fun i d' e => ?_⟩, fun env' σ' H' cls d g' _ _ px => ?_⟩
    · obtain ⟨d, e1, e2⟩ := hs.at_ i d' e
      obtain ⟨v, a, r⟩ := B.E.at_ i d e1
      exact ⟨v, a, SnP.rep le1 hm e2 r⟩
    · obtain ⟨_, _, _, _, _, _, _, f, _⟩ := px
      exact f.elim
  refine ⟨g1, F1, B1, fun g2 w1 H1 l1 R2 htab => ?_⟩
  have y2 : ∀ a, Lq a → ∃ o, H a = some o ∧ g2.G a = some o ∧ H1 a = some o := fun a ha => by
    obtain ⟨_, _, _, h4, o, h5⟩ := LqR a ha
    have e2 : g2.G a = some o := l1.G _ _ ((g1y a ha).trans h5)
    refine ⟨o, h5, e2, ?_⟩
    rcases R2.imm a _ e2 with ⟨_, z⟩ | ⟨o2, z, _⟩
    · exact z
    · have z : c.L a = some o2 := z
      rw [h4] at z; cases z
  let g3 : Gh := ⟨fun a => if Lq a then none else g2.G a, g.pm⟩
  have g3n : ∀ a, ¬ Lq a → g3.G a = g2.G a := fun a h => if_neg h
  have g3y : ∀ a, Lq a → g3.G a = none := fun a h => if_pos h
  have l2 : g.le g3 := ⟨fun a u e => by
    have ha : ¬ Lq a := fun z => by rw [(LqR a z).1] at e; cases e
    rw [g3n a ha]
    exact l1.G _ _ (le1 _ _ e), fun a e => e⟩
  have keep : ∀ a u, (∀ xs, u ≠ .dK xs) → (∀ C dx xs, u ≠ .ins C dx xs) → (∀ vs, u ≠ .lst vs) → g2.G a = some u → g3.G a = some u := fun a u n1 n2 n3 e => by
    have ha : ¬ Lq a := fun z => by
      obtain ⟨o, h5, e2, _⟩ := y2 a z
      rw [e] at e2; cases e2
      obtain ⟨m, em, lm⟩ := z
      obtain ⟨_, _, _, o2, h4, h6⟩ := R.mu a _ em
      rw [h5] at h4; cases h4
      cases h6 with
      | dic r => exact n1 _ rfl
      | ins k r => exact n2 _ _ _ rfl
      | lst r => exact n3 _ rfl
      | tab _ _ => exact lm
      | held _ => exact lm
      | clo _ _ _ _ => exact lm
    rw [g3n a ha]
    exact e
  have R3 : Rel K c g3 w H1 := by
    refine ⟨fun a u e => ?_, fun a o e => ?_, fun a m e => ?_, fun a o e => ?_, fun a e => ?_, R.ex⟩
    · have ha : ¬ Lq a := fun z => by rw [g3y a z] at e; cases e
      rw [g3n a ha] at e
      exact R2.imm a u e
    · have ha : ¬ Lq a := fun z => by rw [(LqR a z).2.2.2.1] at e; cases e
      obtain ⟨u, z⟩ := R2.lck a o e
      exact ⟨u, by rw [g3n a ha]; exact z⟩
    · have e : w.m a = some m := e
      obtain ⟨h1, h2, h3, o, h4, h5⟩ := R.mu a m e
      by_cases ha : Lq a
      · obtain ⟨o2, p2, p3, p4⟩ := y2 a ha
        rw [h4] at p2; cases p2
        exact ⟨g3y a ha, h2, h3, o, p4, h5.le l2⟩
      · by_cases ht : ∃ s, m = .tab s
        · obtain ⟨s, rfl⟩ := ht
          obtain ⟨k1, k2, k3, o2, k4, k5⟩ := R2.mu a _ (htab a s e)
          refine ⟨by rw [g3n a ha]; exact k1, h2, h3, o2, k4, ?_⟩
          cases k5 with
          | tab t f => exact .tab t fun pos cv z => let ⟨cc, x, y⟩ := f pos cv z; ⟨cc, x, keep _ _ (fun ks z => by cases z) (fun _ _ _ z => by cases z) (fun _ z => by cases z) y⟩
        · have hf := F1m a m o e (fun s z => ht ⟨s, z⟩) ha h4
          obtain ⟨k1, k2, k3⟩ := R2.frm a o hf
          exact ⟨by rw [g3n a ha]; exact k2, h2, h3, o, k1, h5.le l2⟩
    · have ha : ¬ Lq a := fun z => by rw [(LqR a z).2.1] at e; cases e
      obtain ⟨k1, k2, k3⟩ := R2.frm a o (F1c a o e)
      exact ⟨k1, by rw [g3n a ha]; exact k2, (R.frm a o e).2.2⟩
    · have e : g.pm a = true := e
      obtain ⟨k1, ys, k2, k3⟩ := R.pen a e
      have ha : ¬ Lq a := fun z => by rw [(LqR a z).2.2.1] at e; cases e
      have hf : F1 a = some (.lst ys) := by
        show (if Lq a then none else if g.pm a = true then H a else match w.m a with | some (.tab _) => c.F a | some _ => H a | none => c.F a) = _
        rw [if_neg ha, if_pos e]
        exact k2
      obtain ⟨q1, q2, q3⟩ := R2.frm a _ hf
      exact ⟨by rw [g3n a ha]; exact q2, ys, q1, k3.le l2 (Nat.le_refl _)⟩
  exact ⟨g3, l2, R3⟩
def dLendY (t : DTE) : DTE := fun env w Q => ∃ env', SnPE w env env' ∧ t env' (lentW w) fun r w1 => atomD r = true ∧ (∀ a s, w.m a = some (.tab s) → w1.m a = some (.tab s)) ∧ Q r w
theorem de_lendY {X : Cx} {Wv : WX} {e : Expr} {t : DTE} (h : DE X Wv e t) : DE X Wv e (dLendY t) := by
  refine ⟨PE_imp h.pe fun σ H Qv ⟨c, g, env, w, Q, B, ⟨env', hs, hq⟩, k⟩ => ?_⟩
  obtain ⟨g1, F1, B1, fin⟩ := lend_inP B hs
  refine bindE B1 hq fun v H1 g2 w1 r l1 B2 r1 ⟨hnd, htab, q1⟩ => ?_
  obtain ⟨g3, l2, R3⟩ := fin g2 w1 H1 l1 B2.R htab
  exact k v H1 ⟨g3, _, r, l2, R3, Rep.atom r1 hnd, q1⟩
end DL
namespace DL
open PySem PySem.Spec PyProof.Rows L2
structure NonC (K : PySem.W.Frag) (mg : Str → Option Value) (n : Str) : Prop where
  ex : ∃ C, mg n = some (.ref C) ∧ PySem.W.kitOne K (.type "NoneType") (.ref C) = some false
theorem NonC.of {K : PySem.W.Frag} {mg : Str → Option Value} {n : Str} {C : Addr} (m : mg n = some (.ref C)) (c5 : PySem.W.isClsIn K C = true) (c6 : PySem.W.typeIn K (.ref C) = some (.type "type")) : NonC K mg n := ⟨C, m, by
  have e := DL.sub_none (K := K) (C := C) "NoneType" (by decide)
  unfold PySem.W.kitOne
  rw [if_neg (by simp)]
  unfold PySem.W.kitCls
  have c5 : (PySem.W.clsIn K C).isSome = true := c5
  dsimp only
  rw [c5, c6]
  rw [if_pos (by simp)]
  exact e⟩
section
variable {X : Cx} {Wv : WX} {n1 n2 : Str} {p p1 p2 pos tp : Pos} {e : Expr} {t : DTE} {t1 t2 : List (Str × Bool)} {kk : Nat}
end
end DL
namespace DL
open PySem PySem.Spec PyProof.Rows L2
def tys7 : List String := ["NoneType", "bool", "int", "str", "list", "tuple", "dict"]
section
variable {X : Cx}
end
end DL
namespace DL
open PySem PySem.Spec PyProof.Rows L2
section
variable {x C dx : Addr}
end
section
variable {M : Model} {prog : Program} {w : World} {A : Around} {E : Value → Shared → Prop} {s : Shared} {K : PySem.W.Frag} {x C : Addr} {ox : Obj} {od : Option Obj}
end
structure MroX (K : PySem.W.Frag) (n : Str) : Prop where
  ex : ∃ C, ClsAt K n C ∧ ∀ m ∈ tys7, PySem.W.mroIn K C (.type m) = some false
theorem MroX.of {K : PySem.W.Frag} {n : Str} {C : Addr} (k : ClsAt K n C) (h1 : PySem.W.mroIn K C (.type "NoneType") = some false) (h2 : PySem.W.mroIn K C (.type "bool") = some false) (h3 : PySem.W.mroIn K C (.type "int") = some false) (h4 : PySem.W.mroIn K C (.type "str") = some false) (h5 : PySem.W.mroIn K C (.type "list") = some false) (h6 : PySem.W.mroIn K C (.type "tuple") = some false) (h7 : PySem.W.mroIn K C (.type "dict") = some false) : MroX K n := ⟨C, k, fun m hm => by
  simp only [tys7, List.mem_cons, List.not_mem_nil, or_false] at hm
  rcases hm with rfl | rfl | rfl | rfl | rfl | rfl | rfl
  · exact h1
  · exact h2
  · exact h3
  · exact h4
  · exact h5
  · exact h6
  · exact h7⟩
section
variable {X : Cx}
end
end DL
namespace DL
open PySem PySem.Spec PyProof.Rows L2
section
variable {X : Cx}
end
end DL
namespace DL
open PySem PySem.Spec PyProof.Rows L2
def listMCR : DRC := fun xs w Q => match xs with
  | [.ref p] => ∃ ys, w.m p = some (.lst ys) ∧ ∀ q, w.m q = none → Q (.ref q) (w.put q (.lst ys))
  | _ => False
theorem cd_listMC {X : Cx} (hc : X.calm = true) : CallD X (.type "list") listMCR := by
  refine ⟨_, CallR_or call_list_of (call_listD hc), fun c g w H vs ds Q Qv R r q k => ?_⟩
  unfold listMCR at q
  split at q
  · obtain ⟨v, rfl, a⟩ := r.one; cases a
    obtain ⟨ys, e, q⟩ := q
    obtain ⟨vs, e1, r⟩ := R.mlst e
    exact .inl ⟨_, _, rfl, .inl (SqL.of e1), newM R r q k⟩
  · exact q.elim
end DL
namespace DL
open PySem PySem.Spec PyProof.Rows L2
section
variable {X : Cx}
variable {Wv : WX} {e : Expr} {te : TE} {t : DTE} {p apos cpos pos : Pos}
end
end DL
namespace DL
open PySem PySem.Spec PyProof.Rows L2
section
variable {X : Cx} {Wv : WX} {o e : Expr} {to te : DTE} {apos pos : Pos}
end
end DL
namespace DL
open PySem PySem.Spec PyProof.Rows L2
section
variable {X : Cx} {Wv : WX} {o e f : Expr} {td ty tx : TE} {apos cpos : Pos}
end
section
variable {X : Cx} {Wv : WX} {o e f : Expr} {td ty tx : DTE} {apos cpos : Pos}
end
end DL
namespace DL
open PySem PySem.Spec PyProof.Rows L2
section
open PyProof.V
variable {prog : Program} {w : World} {κ : Type} [DecidableEq κ] {knd : KeyKind prog w κ} {A : Around} {E : Value → Shared → Prop} {s : Shared}
end
end DL
namespace DL
open PySem PySem.Spec PyProof.Rows L2 LamX NdefX
abbrev cloM (X : Cx) (params : Arguments) (scope : Scope) (body : Expr) (f c1 : Addr) (σ : St) (env : En) : MO := .clo (LamO f (lamF X params scope c1) body) c1 (X.env.qual ++ "<lambda>") σ env
section
variable {X : Cx} {pins : List (Addr × Obj)} {σ : St} {H : Hp} {s : Shared} {c : Ck} {g : Gh} {w : W}
theorem lam_mkC {P c0 : Addr} {params : Arguments} {body : Expr} {scope : Scope} {pos : Pos} {env : En} {E : Value → Shared → Prop} {Q : Value → Shared → Prop} (I : Inv X pins σ H s) (R : Rel X.K c g w H) (eR : EnR X.K g env σ) (hm : w.m P = some (.tab (X.env.qual ++ "<lambda>"))) (TB : TabB X.base X.mg c0 P)
    (hcode : X.env.code = .ref c0) (hdef : defaultsOf params X.env = ([], [])) (hfree : ∀ y ∈ scope.names, y.2 = .free → ∃ c, X.env.cells.lookup y.1 = some c)
    (h : ∀ f c1 H1 g1 s1, g.le g1 → Inv X pins σ H1 s1 → w.m f = none → Rel X.K c g1 (w.put f (cloM X params scope body f c1 σ env)) H1 → Q (.ref f) s1) :
    wpAny (model X.prog X.w) X.A (eval (.Lambda params body scope pos) X.env) Q E s := by
  obtain ⟨hG, hF, hP, o, h0, r⟩ := R.mu P _ hm
  cases r with
  | @tab _ ps ht ha =>
    refine PySem.W.kla_eval hdef ?_
    have bP : s.heap.BuiltinsAt X.mg P := TB.bm.keeps I.bk
    have hP1 : s.heap.get? P = some { cls := .none, data := .fields ps } := I.hok P _ h0
    cases hc : codeAmong pos ps.toList with
    | none =>
      refine PySem.W.kla_makeFunction (mg := X.mg) (c := c0) (P := P) (ps := ps) (closure_ok hfree) I.ok.glob (I.mod.glob.keeps I.bk) hcode (TB.code.keeps I.bk) hP1 ht hc TB.gP bP fun c1 ctv h1 tk hx hge hlt hrec htb => ?_
      obtain ⟨c2, oc, vs, t, e2, hoc, hd, hv⟩ := hrec
      cases e2
      have nC : H c1 = none := I.hok.fresh hge
      have nPc : P ≠ c1 := ne_of_none h0 nC
      have I0 := inv_table (t' := tk) (more := #[rawInt pos.line, rawInt pos.col, .ref c1]) (h' := h1) I h0 hx htb hge ⟨oc, vs, t, hoc, hd, hv⟩
      have R1 := R.alloc (o := CodeO c1 (X.env.qual ++ "<lambda>")) nC
      have l1 := Gh.add_le (o := CodeO c1 (X.env.qual ++ "<lambda>")) (R.noG nC)
      have eL : (ps ++ #[rawInt pos.line, rawInt pos.col, .ref c1]).toList = ps.toList ++ [rawInt pos.line, rawInt pos.col, .ref c1] := by simp
      have rt : RepM X.K (g.add c1 (CodeO c1 (X.env.qual ++ "<lambda>"))) (.tab (X.env.qual ++ "<lambda>")) (.tbl (ps ++ #[rawInt pos.line, rawInt pos.col, .ref c1])) := by
        refine .tab (by rw [eL]; exact PySem.TriplesOk_snoc _ _ _ _ ht) fun p1 cv hcv => ?_
        rw [eL] at hcv
        rcases among_app _ ht hcv with z | z
        · obtain ⟨c3, e1, e2⟩ := ha p1 cv z
          exact ⟨c3, e1, l1.G _ _ e2⟩
        · exact ⟨c1, z, Gh.add_at⟩
      have R2 := R1.write hm rt
      rw [W.put_self hm, upd_swap (Ne.symm nPc)] at R2
      have nF := I0.hok.fresh (Nat.le_refl _)
      have I1 := I0.laid (t' := tk) (a := h1.objs.size) (o := LamO h1.objs.size (lamF X params scope c1) body) (h' := h1.push (PySem.W.kla_obj "<lambda>" (X.env.qual ++ "<lambda>") params body scope (cloFrom X.env.cells scope.names []) ((X.mg "__name__").getD .none) c1 ctv))
        (fun b o e => Heap.get?_push_of_some _ e) (Nat.le_refl _) (lamO_ok (Heap.get?_push_size _ rfl))
      have e1 := eR.le l1
      exact h h1.objs.size c1 _ _ _ l1 I1 (R2.noM nF) (R2.allocM (m := cloM X params scope body h1.objs.size c1 σ env) nF (.clo e1.len e1.at_ Gh.add_at ⟨_, rfl⟩))
    | some cv =>
      obtain ⟨c1, e, hco⟩ := ha pos cv hc
      subst e
      refine PySem.W.kla_makeFunctionHit (mg := X.mg) (c := c0) (P := P) (ps := ps) (closure_ok hfree) I.ok.glob (I.mod.glob.keeps I.bk) hcode (TB.code.keeps I.bk) hP1 ht hc bP fun ctv h1 tk hx hsz => ?_
      have I0 : Inv X pins σ H { s with heap := h1, toks := tk } := I.kept hx
      have nF := I0.hok.fresh (Nat.le_refl _)
      have I1 := I0.laid (t' := tk) (a := h1.objs.size) (o := LamO h1.objs.size (lamF X params scope c1) body) (h' := h1.push (PySem.W.kla_obj "<lambda>" (X.env.qual ++ "<lambda>") params body scope (cloFrom X.env.cells scope.names []) ((X.mg "__name__").getD .none) c1 ctv))
        (fun b o e => Heap.get?_push_of_some _ e) (Nat.le_refl _) (lamO_ok (Heap.get?_push_size _ rfl))
      exact h h1.objs.size c1 _ _ _ .rfl I1 (R.noM nF) (R.allocM (m := cloM X params scope body h1.objs.size c1 σ env) nF (.clo eR.len eR.at_ hco ⟨_, rfl⟩))
end
structure ActS (P : Program) (wd : World) (K : PySem.W.Frag) (mg : Str → Option Value) (base : Heap) (k : Nat) (outer : List Env) (s : Shared) (H : Hp) (fa : Addr) (mo : MO) (T : W → DK → Prop) : Prop where
  run : ∀ (A : Around) (e : Env) (s1 : Shared) (H1 : Hp) (c : Ck) (g : Gh) (w : W) (Q : DK), Room k A → A.guards = some [] → Env0 P wd K mg base A (e :: outer) s1 H1 → Un (frs outer) [] H H1 s.heap s1.heap → Rel K c g w H1 → w.m fa = some mo → T w Q → (∀ env, c.e env = c.e []) →
    codeAny (model P wd) A (.call (.ref fa) ⟨[], []⟩) (CR (L2.CX P wd) (e :: outer) P wd H1 s1 (fun v H' => PQ K c g Q v H') (fun cls d H' => ∃ g', g.le g' ∧ PX K c g' (c.e []) cls d H')) s1
  fn : ∀ (s1 : Shared) (H1 : Hp) (c : Ck) (g : Gh) (w : W), Rel K c g w H1 → HOk P wd H1 s1.heap → w.m fa = some mo → PySem.W.FnAt fa s1.heap
theorem ActS.mono {P : Program} {wd : World} {K : PySem.W.Frag} {mg : Str → Option Value} {base : Heap} {j k : Nat} {outer : List Env} {s : Shared} {H : Hp} {fa : Addr} {mo : MO} {T : W → DK → Prop} (a : ActS P wd K mg base j outer s H fa mo T) (h : j ≤ k) : ActS P wd K mg base k outer s H fa mo T :=
  ⟨fun A e s1 H1 c g w Q hr => a.run A e s1 H1 c g w Q (hr.mono h), a.fn⟩
section
variable {X : Cx} {pins : List (Addr × Obj)} {σ : St} {H : Hp} {s : Shared} {c : Ck} {g : Gh} {w : W}
theorem clo_at {P : Program} {wd : World} {K : PySem.W.Frag} {f c1 : Addr} {F : NF} {body : Expr} {q : Str} {env : En} {H1 : Hp} {h : Heap} (R : Rel K c g w H1) (hok : HOk P wd H1 h) (hm : w.m f = some (.clo (LamO f F body) c1 q σ env)) :
    (∃ pm ctv, h.get? f = some (PySem.W.kla_obj "<lambda>" F.qual F.params body F.scope F.cl pm F.c ctv)) ∧ EnR K g env σ ∧ H1 c1 = some (CodeO c1 q) := by
  obtain ⟨_, _, _, o, h0, r⟩ := R.mu f _ hm
  cases r with
  | clo l a k x => exact ⟨(show ObjOk P wd H1 h f (.ext _) from hok f _ h0).1, ⟨l, a⟩, R.ext k⟩
theorem act_lam {k : Nat} {f c1 : Addr} {params : Arguments} {body : Expr} {scope : Scope} {env : En} {t : DTE} (I : Inv X pins σ H s) (L : LamS X.env.scope scope)
    (hbind : ∀ (q : Str) (cl : List (Str × Addr)) (pm cv ctv : Value), bindArgs (PySem.W.kla_fn "<lambda>" q params body scope cl pm cv ctv) ⟨[], []⟩ = pure [])
    (hbody : ∀ (A : Around) (outer : List Env) (s : Shared) (H : Hp) (E : XK), Room k (A.deeper (lamEnv X scope s.heap.objs.size f c1)) → A.guards = some [] → DE (lamCx X A outer s H E scope f c1) (fun cls d _ H => E cls d H) body t) :
    ActS X.prog X.w X.K X.mg X.base (k + 1) X.stack s H f (cloM X params scope body f c1 σ env) (t env) := by
  refine ⟨fun A e s1 H1 c g w Q hr hgd e0 un R hm ht hce => ?_, fun s1 H1 c g w R hok hm => ?_⟩
  · obtain ⟨⟨pm, ctv, of1⟩, eR, hcH⟩ := clo_at R e0.hok hm
    refine PySem.W.kla_callFunE hr.depth of1 rfl L.co L.gen rfl (codeO_at e0.hok hcH) ?_
    rw [hbind]
    have nolim : s1.heap.NoLimit := e0.mod.nolimit.keeps fun b o e => (e0.bs b o e).1
    refine wpAny_pure (wpAny_newFunctionEnv (fun y hy => (L.own y hy).2) (fun y hy => absurd hy (by simp)) (fun h₁ hns hsb => ⟨nolim.fresh _ hsb, ?_⟩) L.kind)
    show codeAny _ _ (.expr body (lamEnv X scope s1.heap.objs.size f c1)) _ _
    have kp : ∀ b o, s1.heap.get? b = some o → h₁.get? b = some o := fun b o e => hsb.extBut b o (Nat.ne_of_lt (Heap.lt_size e)) (Heap.get?_push_of_some _ e)
    have J : Inv (lamCx X A (e :: X.stack) s1 H1 (fun cls d H' => ∃ g', g.le g' ∧ PX X.K c g' (c.e []) cls d H') scope f c1) [] σ H1 { s1 with heap := h₁, toks := s1.toks + ([] : List (Str × Value)).length } :=
      lam_start2 I L e0 hr.hd un hns kp
    refine PySem.W.kla_codeExpr (wpAny_mono ((hbody A (e :: X.stack) s1 H1 _ (hr.deeper _) hgd).pe.run [] _ _ H1 (fun v H' => PQ X.K c g Q v H') J ⟨c, g, env, w, Q, ⟨R, eR, fun env' σ' H' cls d g' l' e' px => ⟨g', l', hce env' ▸ px⟩⟩, ht, fun _ _ z => z⟩) (fun v s' hq => ?_) fun e s' hq => hq)
    obtain ⟨w', H', J', rv, q⟩ := hq
    exact ⟨w', H', J'.os, J'.bare, J'.base, J'.hok, rv, q⟩
  · obtain ⟨⟨pm, ctv, of1⟩, _, _⟩ := clo_at R hok hm
    exact ⟨_, _, _, _, of1⟩
end
theorem CX_imp {P : Program} {w : World} {outer : List Env} {H : Hp} {s s' : Shared} {E E' : XK} {u : Value} (h : ∀ cls d H', E cls d H' → E' cls d H') (q : L2.CX P w outer H s E u s') : L2.CX P w outer H s E' u s' :=
  let ⟨a, B, H', cls, d, e1, e2, e3, e4, e5, e6, e7, e8⟩ := q
  ⟨a, B, H', cls, d, e1, e2, e3, e4, e5, e6, e7, h _ _ _ e8⟩
def dAct (i : Nat) (fa : Addr) (mo : MO) (T : W → DK → Prop) : DTE := fun env w Q => env[i]? = some (some (.ref fa)) ∧ w.m fa = some mo ∧ T (w.inn env) fun d w2 => Q d (w2.as w)
section
variable {Z : Cx} {Wv : WX}
theorem de_act {i k : Nat} {fa : Addr} {mo : MO} {T : W → DK → Prop} {x : Str} {p1 p2 : Pos} (hA : ActS Z.prog Z.w Z.K Z.mg Z.base k Z.outer Z.s_0 Z.H_0 fa mo T) (hr : Room k Z.A) (hgd : Z.A.guards = some []) (tk : Takes Z Wv)
    (hs : Z.stack = Z.env :: Z.outer := by rfl) (hex : Z.ex = [] := by rfl) (hN : Z.N[i]? = some x := by rfl) (hv : Vis Z.env.scope x := by first | exact Or.inl rfl | exact Or.inr (Or.inl rfl) | exact Or.inr (Or.inr rfl))
    (hd : (x == ("__debug__" : Str)) = false := by decide) (hcd : (x == ("__classdict__" : Str)) = false := by decide) : DE Z Wv (.Call (.Name x p1) [] [] p2) (dAct i fa mo T) := by
  refine ⟨⟨fun pins s σ H Q I h => ?_⟩⟩
  obtain ⟨c, g, env, w, Q0, B, ⟨h1, h2, h3⟩, kk⟩ := h
  obtain ⟨v, hσ, rv⟩ := B.E.at_ i _ h1
  cases rv
  refine wpAny_Call_Name_kw (thn ((pe_var (pos := p1) (i := i) hN hv hd hcd).run pins s σ H (fun v H1 => v = .ref fa ∧ H1 = H) I ⟨.ref fa, hσ, rfl, rfl⟩) fun u s1 ⟨v, H1, I1, r1, q1⟩ => ?_)
  obtain ⟨ev, eH⟩ := q1
  subst ev
  subst eH
  obtain rfl : u = Value.ref fa := r1
  refine PySem.W.callWith_F0 (hA.fn s1 H1 c g w B.R I1.hok h2) ?_
  have un : Un (frs Z.outer) [] Z.H_0 H1 Z.s_0.heap s1.heap := by
    have := I1.base
    rw [hex] at this
    exact this
  have e0 := I1.env0
  have e0' : Env0 Z.prog Z.w Z.K Z.mg Z.base Z.A (Z.env :: Z.outer) s1 H1 := by rw [← hs]; exact e0
  have rc := hA.run Z.A Z.env s1 H1 { c with e := fun _ => c.e env } g (w.inn env) (fun d w2 => Q0 d (w2.as w)) hr hgd e0' un (B.R.inn env) h2 h3 (fun _ => rfl)
  rw [← hs] at rc
  refine wpAny_call (codeAny_mono rc fun r s' hq => ?_)
  match r, hq with
  | .error e, hq =>
    refine passAt tk σ pins H1 s1 e s' I1 (CX_imp (fun cls d H' ⟨g', l', px⟩ => ?_) hq)
    refine B.X env σ H' cls d g' l' (B.E.le l') ?_
    obtain ⟨g3, w3, C, fs, e1, l3, R3, e3, m3⟩ := px
    exact ⟨g3, w3.as w, C, fs, e1, l3, R3.out rfl rfl B.R.ex, e3, m3⟩
  | .ok (.ret u), hq =>
    obtain ⟨v, H', h4, h5, h6, h7, h8, ⟨g2, w2, d, l2, R2, r2, q2⟩⟩ := hq
    exact I1.after ⟨v, H', h4, h5, h6, h7, h8, kk v H' ⟨g2, w2.as w, d, l2, R2.out rfl rfl B.R.ex, r2, q2⟩⟩
end
end DL
namespace DL
open PySem PySem.Spec PyProof.Rows L2
section
variable {X : Cx} {bs : List Stmt} {f₀ : Stmt} {fs : List Stmt} {pos : Pos} {tb : WX → TS} {tf tfs : TS} {Wout : WX}
theorem ps_fin (hs : X.stack = X.env :: X.outer) (hf : X.env.frame = some X.env.locals) (hex : X.ex = []) (tk : Takes X Wout)
    (hb : ∀ (W : WX) (pn : List (Addr × Obj)) (xe : Value → Shared → Prop), Takes (X.tr pn xe) W → PSs (X.tr pn xe) bs (tb W))
    (hfin : PSs X.nox (f₀ :: fs) tf) (hsu : ∀ (a : Addr) (pn : List (Addr × Obj)), PSs (X.suite a pn) (f₀ :: fs) tfs) :
    PS X (.Try bs [] [] (f₀ :: fs) pos) (fun D σ H => tb (wFin tfs Wout) { nx := fun σ1 H1 => tf { nx := D.nx, rt := fun _ _ => False } σ1 H1, rt := fun _ _ => False } σ H) := by
  refine ⟨fun pins s σ H D I h => ?_⟩
  have ok := I.ok
  refine wpAny_Try_finally ?_
  refine wpAny_mono ((hb (wFin tfs Wout) (X.pn ++ pins) (fun x s₁ => wpAny (model X.prog X.w) X.A (noteFrame x X.env) (fun _ s₂ => FinallyRaised X.prog X.w X.A X.xe X.env (f₀ :: fs) (SP X pins D) x s₂) (FinallyRaised X.prog X.w X.A X.xe X.env (f₀ :: fs) (SP X pins D)) s₁)
    (fun u s' xx => ?_)).run [] s σ H { nx := fun σ1 H1 => tf { nx := D.nx, rt := fun _ _ => False } σ1 H1, rt := fun _ _ => False } (I.toTry _) h) (fun f s1 z => ?_) (fun x s1 hx => hx)
  · exact fin_exc hs hf hex ok tk hsu xx
  · cases f with
    | brk =>
      obtain ⟨_, _, _, q⟩ := z
      exact False.elim q
    | cont =>
      obtain ⟨_, _, _, q⟩ := z
      exact False.elim q
    | ret u =>
      obtain ⟨_, _, _, _, _, q⟩ := z
      exact False.elim q
    | next =>
      obtain ⟨σ1, H1, J, q⟩ := z
      have I1 : Inv X pins σ1 H1 s1 := J.ofTry ok
      refine wpAny_execs_nil ?_
      refine wpAny_mono (hfin.run pins s1 σ1 H1 { nx := D.nx, rt := fun _ _ => False } (I1.wish _) q) (fun g s2 q2 => ?_) fun _ _ z => False.elim z
      have q' : SP X pins { nx := D.nx, rt := fun _ _ => False } g s2 := q2.unwish
      cases g with
      | next =>
        obtain ⟨σ2, H2, I2, q3⟩ := q'
        exact ⟨σ2, H2, I2, q3⟩
      | ret w2 =>
        obtain ⟨_, _, _, _, _, q3⟩ := q'
        exact False.elim q3
      | brk =>
        obtain ⟨_, _, _, q3⟩ := q'
        exact False.elim q3
      | cont =>
        obtain ⟨_, _, _, q3⟩ := q'
        exact False.elim q3
end
def finEnds (tf : DTS) (D : DEnds) (w : W) : DEnds := { nx := fun e1 w1 => tf { nx := fun e2 w2 => D.nx e2 (w2.as w), rt := fun _ _ => False } e1 w1.mute, rt := fun _ _ => False }
def finW (tf : DTS) (w : W) : W := { m := w.m, n := w.n, e := fun e1 C fs m k => tf { nx := fun e2 w2 => w.e e2 C fs w2.m w2.n, rt := fun _ _ => False } e1 { m := m, n := k, e := fun _ _ _ _ _ => False } }
def dFin (tb tf : DTS) : DTS := fun D env w => tb (finEnds tf D w) env (finW tf w)
section
variable {X : Cx} {Wv : WX} {bs : List Stmt} {f₀ : Stmt} {fs : List Stmt} {pos : Pos} {tb tf : DTS}
theorem ds_fin (tk : Takes X Wv) (hs : X.stack = X.env :: X.outer) (hf : X.env.frame = some X.env.locals) (hx : X.ex = [])
    (hb : ∀ (W : WX) (pn : List (Addr × Obj)) (xe : Value → Shared → Prop), Takes (X.tr pn xe) W → DSs (X.tr pn xe) W bs tb)
    (hfin : DSs X.nox (fun _ _ _ _ => True) (f₀ :: fs) tf) (hsu : ∀ (a : Addr) (pn : List (Addr × Obj)), DSs (X.suite a pn) (fun _ _ _ _ => True) (f₀ :: fs) tf) :
    DS X Wv (.Try bs [] [] (f₀ :: fs) pos) (dFin tb tf) := by
  refine ⟨PS_imp (ps_fin (tb := fun W => liftS X.K W tb) (tf := liftS X.K (fun _ _ _ _ => True) tf) (tfs := liftS X.K (fun _ _ _ _ => True) tf) hs hf hx tk (fun W pn xe tk => (hb W pn xe tk).ps) hfin.ps (fun a pn => (hsu a pn).ps)) fun Dv σ H ⟨c, g, env, w, D, B, q, E⟩ => ?_⟩
  refine ⟨{ c with e := (finW tf w).e }, g, env, finW tf w, finEnds tf D w, ⟨⟨B.R.imm, B.R.lck, B.R.mu, B.R.frm, B.R.pen, rfl⟩, B.E, fun env' σ' H' cls d g' l' E' px => ?_⟩, q, ⟨?_, ?_, ?_, ?_⟩⟩
  · obtain ⟨g2, w2, n2, fs2, hC, l2, R2, q2, dd⟩ := px
    refine ⟨c.mute, g2, env', w2.mute, { nx := fun e3 w3 => w.e e3 n2 fs2 w3.m w3.n, rt := fun _ _ => False }, ⟨⟨R2.imm, R2.lck, R2.mu, R2.frm, R2.pen, rfl⟩, E'.le l2, fun _ _ _ _ _ _ _ _ _ => trivial⟩, q2, ⟨?_, fun v H1 ⟨_, _, _, _, _, _, z⟩ => z.elim, fun _ _ _ _ _ _ _ z => z.elim, fun _ _ _ _ _ _ _ z => z.elim⟩⟩
    intro env3 w3 σ3 H3 g3 l3 B3 q3
    refine B.X env3 σ3 H3 cls d g3 ((l'.trans l2).trans l3) B3.E ?_
    refine ⟨g3, w3.as w, n2, fs2, hC, .rfl, B3.R.out rfl rfl B.R.ex, B.R.ex ▸ q3, ?_⟩
    cases d with
    | none => exact dd
    | some dx =>
      obtain ⟨xs, ds, hne, hG, rf, rfl⟩ := (show ∃ xs ds, _ from dd)
      exact ⟨xs, ds, hne, l3.G _ _ hG, rf.le l3, rfl⟩
  · intro env1 w1 σ1 H1 g1 l1 B1 q1
    refine ⟨c.mute, g1, env1, w1.mute, { nx := fun e2 w2 => D.nx e2 (w2.as w), rt := fun _ _ => False }, ⟨⟨B1.R.imm, B1.R.lck, B1.R.mu, B1.R.frm, B1.R.pen, rfl⟩, B1.E, fun _ _ _ _ _ _ _ _ _ => trivial⟩, q1, ⟨?_, fun v H1 ⟨_, _, _, _, _, _, z⟩ => z.elim, fun _ _ _ _ _ _ _ z => z.elim, fun _ _ _ _ _ _ _ z => z.elim⟩⟩
    intro env3 w3 σ3 H3 g3 l3 B3 q3
    exact E.nx env3 (w3.as w) σ3 H3 g3 (l1.trans l3) ⟨B3.R.out rfl rfl B.R.ex, B3.E, fun e4 s4 H4 cls4 d4 g5 l5 E5 p5 => B.X e4 s4 H4 cls4 d4 g5 ((l1.trans l3).trans l5) E5 p5⟩ q3
  · intro v3 H3 ⟨g3, w3, d3, l4, R4, r4, q4⟩
    exact q4.elim
  · intro env3 w3 σ3 H3 g3 l4 B3 q3
    exact q3.elim
  · intro env3 w3 σ3 H3 g3 l4 B3 q3
    exact q3.elim
end
end DL
namespace DL
open PySem PySem.Spec PyProof.Rows L2 LamX NdefX
abbrev ClS := Addr → MO → (W → DK → Prop) → DSp
structure FnL (P : Program) (w : World) (K : PySem.W.Frag) (mg : Str → Option Value) (base : Heap) (k : Nat) (f : Addr) (fd : FuncData) (ps : List Str) (sp : ClS) : Prop where
  len : ∀ fa mo T ds w Q, sp fa mo T ds w Q → ds.length = ps.length
  run : ∀ (A : Around) (outer : List Env) (s : Shared) (H : Hp) (args : Args) (us : List Value) (vs : List V) (Q : VK) (E : XK) (fa : Addr) (mo : MO) (T : W → DK → Prop), Room (k + 1) A → A.guards = some [] → Env0 P w K mg base A outer s H →
    BindsTo s fd args (ps.zip us) → Vals vs us → ActS P w K mg base k outer s H fa mo T → liftSp K (sp fa mo T) vs H Q E → codeAny (model P w) A (.call (.ref f) args) (CR (L2.CX P w) outer P w H s Q E) s
section
variable {P : Program} {w : World} {K : PySem.W.Frag} {mg : Str → Option Value} {base : Heap}
theorem fnL_of {x qual : Str} {st : Stmt} {f : Addr} {fd : FuncData} {N ps : List Str} {k : Nat} {sp : ClS} (F : Fun K x qual st f fd) (S : FnScope N ps (defScope st)) (len : ∀ fa mo T ds w Q, sp fa mo T ds w Q → ds.length = ps.length)
    (hbody : ∀ (cdv : Value) (A : Around) (outer : List Env) (s : Shared) (H : Hp) (E : XK) (fa : Addr) (mo : MO) (T : W → DK → Prop), Room k (A.deeper (envOfC qual (defScope st) s.heap.objs.size f cdv)) → A.guards = some [] → ActS P w K mg base k outer s H fa mo T →
      ∃ t, DSs (cxOf (L2.CX P w) P w K mg base N qual (defScope st) f cdv A outer s H E) (fun cls d _ H => E cls d H) (defBody st) t ∧
        ∀ ds (wd : W) Q, sp fa mo T ds wd Q → t { nx := fun _ w' => Q .non w', rt := Q } (startD N.length ds) wd) : FnL P w K mg base k f fd ps sp := by
  obtain ⟨oc, od, kV, doc, pm, an, cdv, ct, osl, rfl, lk, hcd⟩ := F.ex
  refine ⟨len, fun A outer s H args us vs Q E fa mo T hr hgd e0 hb r act q0 => ?_⟩
  have q0' := q0
  obtain ⟨c, g, wd, ds, Q0, R, rL, h, k1, k3, k2⟩ := q0'
  have hl : vs.length = ps.length := by rw [rL.length]; exact len _ _ _ _ _ _ h
  have kin : K.In s.heap := e0.mod.kin.keeps fun b o e => (e0.bs b o e).1
  have nolim : s.heap.NoLimit := e0.mod.nolimit.keeps fun b o e => (e0.bs b o e).1
  refine codeAny_call_function hr.depth (kin _ _ lk) rfl S.co S.gen rfl (PySem.W.codeRec_of kin hcd) (hb _ _ _ _ ?_)
  refine wpAny_newFunctionEnv_cells S.kind (fun y hy => ?_) fun env he s1 x => ?_
  · obtain ⟨n, v⟩ := y
    cases S.par n (List.of_mem_zip hy).1 with
    | inl q => exact .inl q
    | inr q => exact .inr ⟨q, PySem.W.cellsFrom_some _ _ _ (.inl q)⟩
  · subst he
    refine ⟨nolim.keeps x.toInCall.keep, codeAny_func ?_⟩
    obtain ⟨t, ht, hq⟩ := hbody cdv A outer s H E fa mo T (hr.deeper _) hgd act
    have J := inv_start (CX := L2.CX P w) (P := P) (w := w) (qual := qual) (f := f) (cd := cdv) (E := E) S hr.hd e0 hl r x
    have hq' : liftS K (fun cls d _ H => E cls d H) t { nx := fun _ H' => Q .non H', rt := Q } (start N vs) H :=
      ⟨c, g, _, wd, _, ⟨R, rL.env N, fun env' σ' H' cls d g' l' e' px => k2 cls d H' g' l' (k3 env' ▸ px)⟩, hq ds wd Q0 h, ⟨fun env w σ H g' l' B q => k1 .non H ⟨g', w, .non, l', B.R, .non, q⟩, k1, fun env w σ H g' l' B q => q.elim, fun env w σ H g' l' B q => q.elim⟩⟩
    refine wpAny_mono (ht.ps.run [] s1 _ H _ J hq') (fun fl s' hs => ?_) fun e s' hs => hs
    have fin : ∀ {σ' : St} {H' : Hp} {v : V} {u : Value}, Inv (cxOf (L2.CX P w) P w K mg base N qual (defScope st) f cdv A outer s H E) [] σ' H' s' → RelV v u → Q v H' → CE outer P w H s Q u s' :=
      fun {_ H' v _} J rv q => ⟨v, H', J.os, J.bare, J.base, J.hok, rv, q⟩
    cases fl with
    | ret u =>
      obtain ⟨v, _, H', J, rv, q⟩ := hs
      exact fin J rv q
    | next =>
      obtain ⟨_, H', J, q⟩ := hs
      exact fin (v := V.non) (u := Value.none) J rfl q
    | brk => exact hs.elim fun _ h => h.elim fun _ h => h.2.elim
    | cont => exact hs.elim fun _ h => h.elim fun _ h => h.2.elim
end
structure DLam (P : Program) (w : World) (K : PySem.W.Frag) (mg : Str → Option Value) (base : Heap) (k : Nat) (n m : Str) (ar : Nat) (sp : ClS) : Prop where
  ex : ∃ (C f : Addr) (fd : FuncData) (ps : List Str), ClsAt K n C ∧ Cls K C ∧ Meth K C m f ∧ FnL P w K mg base k f fd ps sp ∧ Binds K fd ps [] ∧ ps.length = ar
section
variable {X : Cx} {Wv : WX}
def tLamC (X : Cx) (P : Addr) (params : Arguments) (scope : Scope) (body : Expr) : TE := fun σ H Q => ∃ (c : Ck) (g : Gh) (w : W) (env : En), Rel X.K c g w H ∧ EnR X.K g env σ ∧ w.m P = some (.tab (X.env.qual ++ "<lambda>")) ∧
  ∀ f c1 H1 g1, g.le g1 → w.m f = none → Rel X.K c g1 (w.put f (cloM X params scope body f c1 σ env)) H1 → Q (.ref f) H1
theorem pe_lamC {P c0 : Addr} {params : Arguments} {body : Expr} {scope : Scope} {pos : Pos} (L : LamS X.env.scope scope) (TB : TabB X.base X.mg c0 P) (hcode : X.env.code = .ref c0) (hdef : defaultsOf params X.env = ([], [])) :
    PE X (.Lambda params body scope pos) (tLamC X P params scope body) := by
  refine ⟨fun pins s σ H Q I h => ?_⟩
  obtain ⟨c, g, w, env, R, eR, hm, hq⟩ := h
  exact lam_mkC I R eR hm TB hcode hdef (L.has I.ok) fun f c1 H1 g1 s1 l1 I1 hn R1 => ⟨.ref f, H1, I1, rfl, hq f c1 H1 g1 l1 hn R1⟩
variable {k ar : Nat} {n m q : Str} {P c0 : Addr} {sp : ClS} {params : Arguments} {body : Expr} {scope : Scope} {p lpos pos apos : Pos} {e o : Expr} {to te tb : DTE}
def dMethL (n m : Str) (P : Addr) (q : Str) (sp : ClS) (tb to te : DTE) : DTE := fun env w Q => to env w fun x w1 => match x with
  | .ref p => ∃ dx fs, w1.m p = some (.ins n dx fs) ∧ fs.lookup m = none ∧ te env w1 fun d w2 => w2.m P = some (.tab q) ∧ ∀ fa mo, w2.m fa = none → (∃ o c1 σ, mo = .clo o c1 q σ env) →
      sp fa mo (tb env) [.ref p, d, .ref fa] ((w2.put fa mo).inn env) fun r w3 => Q r ((w3.del fa).as w2)
  | _ => False
theorem de_methL {pl : Sem Bool} (F : DLam X.prog X.w X.K X.mg X.base (k + 1) n m ar sp) (TB : TabB X.base X.mg c0 P) (hcode : X.env.code = .ref c0) (hqn : X.env.qual ++ "<lambda>" = q) (hr : Room (k + 2) X.A) (hgd : X.A.guards = some []) (tk : Takes X Wv) (ho : DE X Wv o to) (he : DE X Wv e te)
    (hL : lamSB X.env.scope scope = true)
    (hbody : ∀ (A : Around) (outer : List Env) (s : Shared) (H : Hp) (E : XK) (f c1 : Addr), Room k (A.deeper (lamEnv X scope s.heap.objs.size f c1)) → A.guards = some [] → Takes (lamCx X A outer s H E scope f c1) (fun cls d _ H => E cls d H) → DE (lamCx X A outer s H E scope f c1) (fun cls d _ H => E cls d H) body tb)
    (hdef : defaultsOf params X.env = ([], []) := by rfl)
    (hbind : ∀ (q : Str) (cl : List (Str × Addr)) (pm cv ctv : Value), bindArgs (PySem.W.kla_fn "<lambda>" q params body scope cl pm cv ctv) ⟨[], []⟩ = pure [] := by intros; rfl)
    (hst : starEach [e, .Lambda params body scope lpos] X.env = (false, eval e X.env) :: starEach [.Lambda params body scope lpos] X.env := by rfl) (hst2 : starEach [.Lambda params body scope lpos] X.env = (false, eval (.Lambda params body scope lpos) X.env) :: starEach [] X.env := by rfl)
    (hpl : (backTo pos (starEach [.Lambda params body scope lpos] X.env)).any (·.1) = false := by rfl)
    (ht : eval (.Call (.Attribute o m apos) [e, .Lambda params body scope lpos] [] pos) X.env = (do
      let ov ← eval o X.env
      standAt apos.atName
      let (f, first) ← holding [ov] (getMethod ov m pl)
      callWith pos f first (backTo pos (starEach [e, .Lambda params body scope lpos] X.env)) (backToKw pos (keywordEach [] X.env))) := by rfl) :
    DE X Wv (.Call (.Attribute o m apos) [e, .Lambda params body scope lpos] [] pos) (dMethL n m P q sp tb to te) := by
  obtain ⟨C, f, fd, ps, hC, hc, hm, FF, hb, hps⟩ := F.ex
  have L := lamS_by hL
  have pl_ := pe_lamC (pos := lpos) (params := params) (body := body) L TB hcode hdef
  refine ⟨⟨fun pins s σ H Qv I h => ?_⟩⟩
  obtain ⟨c, g, env, w, Q, B, h, kk⟩ := h
  refine PySem.W.methodCall_KW (pl := pl) (thn (ho.pe.run pins s σ H (fun v H1 => ∃ (g1 : Gh) (w1 : W) (x : D), g.le g1 ∧ Rel X.K c g1 w1 H1 ∧ Rep X.K g1 v x ∧ (match x with
      | .ref p => ∃ dx fs, w1.m p = some (.ins n dx fs) ∧ fs.lookup m = none ∧ te env w1 fun d w2 => w2.m P = some (.tab q) ∧ ∀ fa mo, w2.m fa = none → (∃ o c1 σ, mo = .clo o c1 q σ env) → sp fa mo (tb env) [.ref p, d, .ref fa] ((w2.put fa mo).inn env) fun r w3 => Q r ((w3.del fa).as w2)
      | _ => False)) I ⟨c, g, env, w, _, B, h, fun v H1 z => z⟩) fun u s1 ⟨x, H1, I1, rx, g1, w1, dx, l1, R1, rp, q1⟩ => ?_) ht
  cases dx with
  | ref a =>
    cases rp
    obtain ⟨dx, fs, em, lk, q1⟩ := (show ∃ dx fs, w1.m a = some (.ins n dx fs) ∧ _ from q1)
    obtain rfl : u = Value.ref a := rx
    obtain ⟨C', xs, kC, e3, rf⟩ := R1.mins em
    cases hC.eq kC
    refine getmeth_ok I1 e3 hc hm (rf.no lk) ?_
    have B1 : Bx X.K Wv c g1 env w1 σ H1 := B.step l1 R1
    refine PySem.W.callWith_K (first := [.ref a]) (h₀ := X.base) I1.ok.mod.kin hm.kp ?_ hst hpl
    refine thn ((pa_cons he.pe (pa_cons pl_ pa_nil hst2) hst).run pos pins s1 σ H1 (fun vs H2 => ∃ (g2 : Gh) (w2 : W) (d : D) (v2 : V) (fa c1 : Addr), g1.le g2 ∧ vs = [v2, .ref fa] ∧ Rel X.K c g2 (w2.put fa (cloM X params scope body fa c1 σ env)) H2 ∧ w2.e = c.e ∧ Rep X.K g2 v2 d ∧
      sp fa (cloM X params scope body fa c1 σ env) (tb env) [.ref a, d, .ref fa] ((w2.put fa (cloM X params scope body fa c1 σ env)).inn env) fun r w3 => Q r ((w3.del fa).as w2)) I1 ?_) fun us s2 ⟨vs, H2, I2, r, g2, w2, d, v2, fa, c1, l2, ev, R2, hwe, rd, q2⟩ => ⟨I2.kIn, ?_⟩
    · refine bindE B1 q1 fun v2 H2 g2 w2 d l2 B2 r2 q2 => ?_
      refine ⟨c, g2, w2, env, B2.R, B2.E, by rw [hqn]; exact q2.1, fun fa c1 H3 g3 l3 hn R3 => ?_⟩
      exact ⟨g3, w2, d, v2, fa, c1, l2.trans l3, rfl, R3, B2.R.ex, r2.le l3, q2.2 fa _ hn ⟨_, _, _, by rw [← hqn]⟩⟩
    · subst ev
      have act := act_lam (f := fa) (c1 := c1) (params := params) (body := body) (env := env) (t := tb) I2 L hbind fun A outer s H E hr2 hg2 => hbody A outer s H E fa c1 hr2 hg2 (takes_of rfl rfl rfl rfl)
      have RB : RepL X.K g2 (.ref a :: [v2, .ref fa]) [.ref a, d, .ref fa] := .cons (.ref a) (.cons rd (.cons (.ref fa) .nil))
      have hl : (.ref a :: us).length = ps.length := by
        have h1 : us.length = 2 := r.length.symm
        have := FF.len _ _ _ _ _ _ q2
        show us.length + 1 = _
        rw [h1]
        exact this
      have b := hb s2 (.ref a :: us) I2.kIn (by rw [List.append_nil]; exact hl)
      rw [List.append_nil] at b
      have B2 : Bx X.K Wv c g2 env (w2.put fa (cloM X params scope body fa c1 σ env)) σ H2 := B1.step l2 R2
      have hsp : liftSp X.K (sp fa (cloM X params scope body fa c1 σ env) (tb env)) (.ref a :: [v2, .ref fa]) H2 Qv (WE Wv σ) := by
        refine sp_lift (Q := fun r w3 => Q r (w3.del fa)) B2 ((l1.trans l2)) (fun v H' ⟨g3, w3, d3, l3, R3, r3, q3⟩ => kk v H' ⟨g3, w3.del fa, d3, l3, R3.drop fa, r3, q3⟩) RB ?_
        have e : (fun (r : D) (w3 : W) => Q r ((w3.as (w2.put fa (cloM X params scope body fa c1 σ env))).del fa)) = fun r w3 => Q r ((w3.del fa).as w2) := rfl
        exact q2
      refine wpAny_call (codeAny_mono (FF.run X.A X.stack s2 H2 _ (.ref a :: us) (.ref a :: [v2, .ref fa]) Qv _ fa _ _ hr hgd I2.env0 b (.cons rfl r) act hsp) fun r s' hq => ?_)
      match r, hq with
      | .error e, hq => exact passAt tk σ pins H2 s2 e s' I2 hq
      | .ok (.ret u), hq => exact I2.after hq
  | _ => exact False.elim q1
end
end DL
namespace DL
open PySem PySem.Spec PyProof.Rows L2
end DL
namespace DL
open PySem PySem.Spec PyProof.Rows L2
def sortMR : DRC := fun xs w Q => match xs with
  | [.dic kvs] => ∃ ss, kvs.map (·.1) = ss.map Sum.inr ∧ ∀ p, w.m p = none → Q (.ref p) (w.put p (.lst ((sortT ss).map .str)))
  | [.ref p] => ∃ kvs ss, w.m p = some (.dic kvs) ∧ kvs.map (·.1) = ss.map Sum.inr ∧ ∀ p, w.m p = none → Q (.ref p) (w.put p (.lst ((sortT ss).map .str)))
  | _ => False
theorem cd_sortedM {X : Cx} (hc : X.calm = true) (hu : X.A.units + 64 < cLine) : CallD X (.builtin "sorted") sortMR := by
  refine ⟨_, CallR_or (cr_sortLT (by omega)) (cr_sortDK hc (by omega)), fun c g w H vs ds Q Qv R r q k => ?_⟩
  unfold sortMR at q
  split at q
  · obtain ⟨v, rfl, a⟩ := r.one
    obtain ⟨ss, e, q⟩ := q
    cases a with
    | dic s r => exact .inr ⟨_, _, ss, rfl, R.rdK s, r.keys.trans e, fun p hp => k _ _ ⟨g, _, .ref p, .rfl, R.allocM hp (.lst (repStrs _)), .ref p, q p (R.noM hp)⟩⟩
  · obtain ⟨v, rfl, a⟩ := r.one
    cases a
    obtain ⟨kvs, ss, em, e, q⟩ := q
    obtain ⟨vs, e1, r⟩ := R.mdic em
    exact .inr ⟨_, _, ss, rfl, .inl e1, r.keys.trans e, fun p hp => k _ _ ⟨g, _, .ref p, .rfl, R.allocM hp (.lst (repStrs _)), .ref p, q p (R.noM hp)⟩⟩
  · exact q.elim
end DL
namespace DL
open PySem PySem.Spec PyProof.Rows L2
open HandSPX
section
variable {M : Model} {A : Around} {E : Value → Shared → Prop} {h : Heap} {g : Array GenState} {d : Drawn} {t : Nat} {os : OsState}
variable {nm q : Str} {C N : Addr} {bs bm bmB : List Value} {hdct : Bool} {sn : List Str} {sub : List Value} {ab : Bool} {col : Option Bool} {dd : Option Addr} {k0 k1 k2 k3 k5 : Option Value} {B newId initId : String}
end
section
variable {prog : Program} {w : World} {A : Around} {E : Value → Shared → Prop} {R : Result → Shared → Prop} {h : Heap} {g : Array GenState} {d : Drawn} {t : Nat} {os : OsState}
variable {nm q : Str} {C N : Addr} {bs bm bmB : List Value} {hdct : Bool} {sn : List Str} {sub : List Value} {ab : Bool} {col : Option Bool} {dd : Option Addr} {k0 k1 k2 k3 k5 : Option Value} {B newId initId : String}
end
end DL
namespace DL
open PySem PySem.Spec PyProof.Rows L2
def spPen : DSp := fun ds w Q => match ds with
  | [.lst xs] => ∃ ns, intsOf xs = some ns ∧ ns.length ≤ 63 ∧ w.n = 0 ∧ Q .pen w
  | _ => False
theorem mod_b (x m : Int) (h : 0 < m) : 0 ≤ x % m ∧ x % m < m := ⟨Int.emod_nonneg x (by omega), Int.emod_lt_of_pos x h⟩
theorem cmul_mod {x m y : Int} (h : 0 < m := by decide) (h2 : m ≤ 2 ^ 64 := by decide) : CMul (x % m) y := by
  have := mod_b x m h
  exact .inl ⟨by omega, by omega⟩
theorem cmul_l {x y : Int} (h : -(2 ^ 64) < x := by decide) (h2 : x < 2 ^ 64 := by decide) : CMul x y := .inl ⟨h, h2⟩
theorem mul_b {a b A B : Int} (h0 : 0 ≤ a) (h1 : a ≤ A) (h2 : 0 ≤ b) (h3 : b ≤ B) : 0 ≤ a * b ∧ a * b ≤ A * B :=
  ⟨Int.mul_nonneg h0 h2, Int.mul_le_mul h1 h3 h2 (by omega)⟩
theorem cp1 {c i : Int} (h0 : 0 ≤ i) (h1 : i < 2 ^ 31) : CPow (c % 1000000021 * (i + 5) + 88001 * i + 41) 3 := by
  have a := mod_b c 1000000021 (by decide)
  have b := mul_b (A := 1000000021) (B := 2147483652) a.1 (by omega) (show 0 ≤ i + 5 by omega) (by omega)
  exact ⟨by decide, by decide, by omega⟩
theorem cp2 {x c i : Int} (h0 : 0 ≤ i) (h1 : i < 2 ^ 31) : CPow (x % 2147483587 * (i + 9) + c % 65537 + 3) 5 := by
  have a := mod_b x 2147483587 (by decide)
  have a2 := mod_b c 65537 (by decide)
  have b := mul_b (A := 2147483587) (B := 2147483656) a.1 (by omega) (show 0 ≤ i + 9 by omega) (by omega)
  exact ⟨by decide, by decide, by omega⟩
theorem nn_next {x y z : Int} : 0 ≤ (x % 2147483549 * 2147483587 + y % 2147483563) * 2147483563 + z % 2147483587 := by
  have a := mod_b x 2147483549 (by decide)
  have b := mod_b y 2147483563 (by decide)
  have c := mod_b z 2147483587 (by decide)
  omega
theorem ints_mem {xs : List D} {ns : List Int} {d : D} (h : intsOf xs = some ns) (m : d ∈ xs) : ∃ c, d = .int c := by
  induction xs generalizing ns with
  | nil => cases m
  | cons x r ih =>
    cases x <;> simp only [intsOf, Option.map_eq_some_iff, reduceCtorEq] at h
    obtain ⟨bs, e1, rfl⟩ := h
    cases m with
    | head => exact ⟨_, rfl⟩
    | tail _ m => exact ih e1 m
theorem ints_take {xs : List D} {ns : List Int} (n : Nat) (h : intsOf xs = some ns) : intsOf (xs.take n) = some (ns.take n) := by
  induction xs generalizing ns n with
  | nil => cases h; simp [intsOf]
  | cons x r ih =>
    cases x <;> simp only [intsOf, Option.map_eq_some_iff, reduceCtorEq] at h
    obtain ⟨bs, e1, rfl⟩ := h
    cases n with
    | zero => rfl
    | succ n => simp [intsOf, ih n e1]
end DL
namespace DL
open PySem PySem.Spec PyProof.Rows L2
def plainD : D → Bool
  | .non | .bl _ | .int _ | .lst _ | .tup _ | .dic _ => true
  | .str x => decide (x.length ≤ sizeLine)
  | _ => false
def letters : Str := "abcdefghijklmnopqrstuvwxyz"
def digits : Str := "0123456789"
def alnum : Str := "abcdefghijklmnopqrstuvwxyz0123456789"
theorem ealn : letters ++ digits = alnum := by decide +kernel
def wordS (x : Str) : Bool := decide (1 ≤ x.length) && decide (x.length ≤ 8) && (match x.cps.toList.head? with | some c => decide (c ∈ letters.cps.toList) | none => false) && x.cps.toList.all fun c => decide (c ∈ alnum.cps.toList)
def isWord : D → Bool
  | .str x => wordS x
  | _ => false
end DL
namespace DL
open PySem PySem.Spec PyProof.Rows L2
mutual
def pl : D → Bool
  | .non | .bl _ | .int _ => true
  | .str x => decide (x.length ≤ sizeLine)
  | .lst xs | .tup xs => plL xs
  | .dic kvs => plK kvs
  | _ => false
def plL : List D → Bool
  | [] => true
  | x :: r => pl x && plL r
def plK : List (Key × D) → Bool
  | [] => true
  | (k, x) :: r => (match k with | .inl _ => true | .inr s => decide (s.length ≤ sizeLine)) && pl x && plK r
end
def isPair : D → Bool
  | .tup xs => decide ((xs.length : Int) = 2)
  | _ => false
def isKey (kvs : List (Key × D)) : D → Bool
  | .str x => (valD kvs (.inr x)).isSome
  | _ => false
def wayGo (kvs : List (Key × D)) : Nat → Str → List Str
  | 0, s => [s]
  | n + 1, s => s :: (match valD kvs (.inr s) with | some (.str y) => wayGo kvs n y | _ => [])
def wayOut (kvs : List (Key × D)) (s : Str) : List Str := wayGo kvs kvs.length s
def Closed (kvs : List (Key × D)) : Prop := ∀ s d, valD kvs (.inr s) = some d → d = .non ∨ ∃ y, d = .str y ∧ (valD kvs (.inr y)).isSome = true
theorem atI_last {α : Type} (xs : List α) (a : α) : atI (xs ++ [a]) (-1) = some a := by
  unfold atI ixN
  simp only [List.length_append, List.length_singleton]
  rw [if_neg (by decide), if_pos (by omega)]
  show (xs ++ [a])[(-1 + ((xs.length + 1 : Nat) : Int)).toNat]? = some a
  have e : (-1 + ((xs.length + 1 : Nat) : Int)).toNat = xs.length := by omega
  rw [e]
  simp
theorem pl_plain {d : D} (h : pl d = true) : plainD d = true := by
  cases d <;> first | rfl | exact h | (unfold pl at h; cases h)
theorem plK_key {kvs : List (Key × D)} (h : plK kvs = true) {k : Key} {d : D} (m : (k, d) ∈ kvs) : pl (kD k) = true ∧ pl d = true := by
  induction kvs with
  | nil => cases m
  | cons x r ih =>
    obtain ⟨k', d'⟩ := x
    unfold plK at h
    simp only [Bool.and_eq_true] at h
    obtain ⟨⟨h1, h2⟩, h3⟩ := h
    rcases List.mem_cons.mp m with e | e
    · cases e
      refine ⟨?_, h2⟩
      cases k with
      | inl i => rfl
      | inr s => unfold kD pl; exact h1
    · exact ih h3 e
theorem mem_dkeys {kvs : List (Key × D)} {x : D} (h : x ∈ dkeys kvs) : ∃ k d, (k, d) ∈ kvs ∧ x = kD k := by
  obtain ⟨kv, hm, e⟩ := List.mem_map.mp h
  exact ⟨kv.1, kv.2, hm, e.symm⟩
theorem mem_dvals {kvs : List (Key × D)} {x : D} (h : x ∈ dvals kvs) : ∃ k, (k, x) ∈ kvs := by
  obtain ⟨kv, hm, e⟩ := List.mem_map.mp h
  subst e
  exact ⟨kv.1, hm⟩
def isNon : D → Bool
  | .non => true
  | _ => false
def nonAt (kvs : List (Key × D)) : D → Bool
  | .str s => (match valD kvs (.inr s) with | some .non => true | _ => false)
  | _ => false
def rootsOf (kvs : List (Key × D)) : List D := (dkeys kvs).filter (nonAt kvs)
def endsAt (kvs : List (Key × D)) : D → Bool
  | .str s => (match (wayOut kvs s).getLast?, (rootsOf kvs).head? with | some a, some (.str b) => decide (a = b) | _, _ => false)
  | _ => false
def isTree : D → Bool
  | .dic kvs => (dkeys kvs).all isWord && ((dvals kvs).all (fun d => isNon d || isKey kvs d) && (decide (((rootsOf kvs).length : Int) = 1) && (dkeys kvs).all (endsAt kvs)))
  | _ => false
theorem all_id {xs : List D} {p : D → Bool} : (xs.map p).all id = xs.all p := by
  rw [List.all_map]; rfl
theorem isTree_dic (kvs : List (Key × D)) : isTree (.dic kvs) = ((dkeys kvs).all isWord && ((dvals kvs).all (fun d => isNon d || isKey kvs d) && (decide (((rootsOf kvs).length : Int) = 1) && (dkeys kvs).all (endsAt kvs)))) := rfl
theorem isWord_str {d : D} (h : isWord d = true) : ∃ s, d = .str s := by
  cases d <;> first | exact ⟨_, rfl⟩ | cases h
structure TreeLike (kvs : List (Key × D)) : Prop where
  keys : ∀ x ∈ dkeys kvs, ∃ s, x = .str s ∧ (valD kvs (.inr s)).isSome = true
  closed : Closed kvs
theorem TreeLike.of {kvs : List (Key × D)} (h1 : (dkeys kvs).all isWord = true) (h2 : ((dvals kvs).all fun d => isNon d || isKey kvs d) = true) : TreeLike kvs := by
  refine ⟨fun x hx => ?_, fun s d hd => ?_⟩
  · obtain ⟨s, rfl⟩ := isWord_str (List.all_eq_true.mp h1 x hx)
    obtain ⟨k, v, hm, e⟩ := mem_dkeys hx
    have ek : k = .inr s := by
      cases k with
      | inl i => cases e
      | inr t => cases e; rfl
    subst ek
    obtain ⟨d, hd⟩ := valD_mem hm
    exact ⟨s, rfl, by rw [hd]; rfl⟩
  · have hm := valD_in hd
    have q := List.all_eq_true.mp h2 d (List.mem_map.mpr ⟨_, hm, rfl⟩)
    rw [Bool.or_eq_true] at q
    rcases q with q | q
    · cases d <;> first | exact .inl rfl | cases q
    · cases d <;> first | exact .inr ⟨_, rfl, q⟩ | cases q
theorem wayGo_ne {kvs : List (Key × D)} {n : Nat} {s : Str} : wayGo kvs n s ≠ [] := by
  cases n <;> (unfold wayGo; simp)
theorem way_last (kvs : List (Key × D)) (s : Str) : ∃ a, (wayOut kvs s).getLast? = some a ∧ atI ((wayOut kvs s).map D.str) (-1) = some (.str a) := by
  have ne : wayOut kvs s ≠ [] := wayGo_ne
  refine ⟨(wayOut kvs s).getLast ne, List.getLast?_eq_some_getLast ne, ?_⟩
  have e := List.dropLast_concat_getLast ne
  have e2 : (wayOut kvs s).map D.str = ((wayOut kvs s).dropLast).map D.str ++ [.str ((wayOut kvs s).getLast ne)] := by
    rw [← List.map_singleton, ← List.map_append, e]
  rw [e2]
  exact atI_last _ _
def isWords : D → Bool
  | .lst xs => xs.all isWord
  | .tup xs => xs.all isWord
  | _ => false
theorem plL_mem {xs : List D} (h : plL xs = true) {x : D} (m : x ∈ xs) : pl x = true := by
  induction xs with
  | nil => cases m
  | cons y r ih =>
    unfold plL at h
    rw [Bool.and_eq_true] at h
    rcases List.mem_cons.mp m with e | e
    · rw [e]; exact h.1
    · exact ih h.2 e
def isBnd (scopes : List (Key × D)) : D → Bool
  | .tup [s, x] => isKey scopes s && isWord x
  | _ => false
def namesPairs (kvs : List (Key × D)) : Bool := (ditems kvs).all fun p => match p with | .tup [k, v] => isWord k && isPair v | _ => false
def areBnds (scopes : List (Key × D)) : D → Bool
  | .dic kvs => namesPairs kvs && (dvals kvs).all (isBnd scopes)
  | _ => false
theorem areBnds_dic (scopes kvs : List (Key × D)) : areBnds scopes (.dic kvs) = (namesPairs kvs && (dvals kvs).all (isBnd scopes)) := rfl
theorem isPair_tup {d : D} (h : isPair d = true) : ∃ a b, d = .tup [a, b] := by
  cases d with
  | tup xs =>
    have e : ((xs.length : Int) = 2) := of_decide_eq_true h
    match xs, e with
    | [a, b], _ => exact ⟨a, b, rfl⟩
    | [], e => simp at e
    | [_], e => simp at e
    | _ :: _ :: _ :: _, e => simp at e; omega
  | _ => cases h
theorem mem_ditems {kvs : List (Key × D)} {x : D} (h : x ∈ ditems kvs) : ∃ k d, (k, d) ∈ kvs ∧ x = .tup [kD k, d] := by
  obtain ⟨kv, hm, e⟩ := List.mem_map.mp h
  exact ⟨kv.1, kv.2, hm, e.symm⟩
theorem pl_pair {a b : D} (h : pl (.tup [a, b]) = true) : pl a = true ∧ pl b = true := by
  unfold pl at h
  exact ⟨plL_mem h (by simp), plL_mem h (by simp)⟩
theorem memS_str {b : Str} {ys : List Str} : DL.memS (.str b) (ys.map D.str) = decide (b ∈ ys) := by
  unfold DL.memS
  induction ys with
  | nil => rfl
  | cons y r ih =>
    rw [List.map_cons, List.any_cons, ih]
    have e : DL.eqS (.str y) (.str b) = decide (y = b) := rfl
    rw [e]
    by_cases h : y = b
    · subst h; simp
    · rw [decide_eq_false h, Bool.false_or]
      have : (b ∈ y :: r) ↔ b ∈ r := by
        rw [List.mem_cons]
        exact ⟨fun z => z.elim (fun e => absurd e.symm h) id, .inr⟩
      exact decide_eq_decide.mpr this.symm
theorem scal_strs (ys : List Str) : (ys.map D.str).all scalD = true := by
  rw [List.all_map]
  exact List.all_eq_true.mpr fun _ _ => rfl
def keysBoth (scopes bnds : List (Key × D)) : D → Bool
  | .tup [s, t] => isKey scopes s && isKey bnds t
  | _ => false
def useOk (scopes bnds : List (Key × D)) : D → Bool
  | .tup [.str s, .str t] => (match valD bnds (.inr t) with | some (.tup [.str b, _]) => decide (b ∈ wayOut scopes s) | _ => false)
  | _ => false
def areUses (scopes bnds : List (Key × D)) : D → Bool
  | .dic kvs => namesPairs kvs && ((dvals kvs).all (keysBoth scopes bnds) && (dvals kvs).all (useOk scopes bnds))
  | _ => false
theorem areUses_dic (scopes bnds kvs : List (Key × D)) : areUses scopes bnds (.dic kvs) = (namesPairs kvs && ((dvals kvs).all (keysBoth scopes bnds) && (dvals kvs).all (useOk scopes bnds))) := rfl
theorem isKey_str {kvs : List (Key × D)} {d : D} (h : isKey kvs d = true) : ∃ s, d = .str s ∧ (valD kvs (.inr s)).isSome = true := by
  cases d with
  | str s => exact ⟨s, rfl, h⟩
  | _ => cases h
theorem bnd_at {scopes bnds : List (Key × D)} (h : areBnds scopes (.dic bnds) = true) {t : Str} {d : D} (e : valD bnds (.inr t) = some d) : ∃ b x, d = .tup [.str b, x] ∧ (valD scopes (.inr b)).isSome = true ∧ isWord x = true := by
  rw [areBnds_dic, Bool.and_eq_true] at h
  have q := List.all_eq_true.mp h.2 d (List.mem_map.mpr ⟨_, valD_in e, rfl⟩)
  have q1 := List.all_eq_true.mp h.1 _ (List.mem_map.mpr ⟨_, valD_in e, rfl⟩)
  have q1 : (isWord (.str t) && isPair d) = true := q1
  rw [Bool.and_eq_true] at q1
  obtain ⟨a, x, rfl⟩ := isPair_tup q1.2
  have q : (isKey scopes a && isWord x) = true := q
  rw [Bool.and_eq_true] at q
  obtain ⟨b, rfl, hb⟩ := isKey_str q.1
  exact ⟨b, x, rfl, hb, q.2⟩
theorem tree_dic {d : D} (h : isTree d = true) : ∃ sc, d = .dic sc ∧ TreeLike sc := by
  cases d with
  | dic sc =>
    rw [isTree_dic, Bool.and_eq_true, Bool.and_eq_true] at h
    exact ⟨sc, rfl, .of h.1 h.2.1⟩
  | _ => cases h
theorem bnds_dic {sc : List (Key × D)} {d : D} (h : areBnds sc d = true) : ∃ bn, d = .dic bn := by
  cases d with
  | dic bn => exact ⟨bn, rfl⟩
  | _ => cases h
theorem uses_dic {sc bn : List (Key × D)} {d : D} (h : areUses sc bn d = true) : ∃ us, d = .dic us := by
  cases d with
  | dic us => exact ⟨us, rfl⟩
  | _ => cases h
def hasKey (kvs : List (Key × D)) (x : D) : Bool := match keyOf x with
  | some k => (valD kvs k).isSome
  | none => false
def isProg (s b u o r : D) : Bool := match s, b, u, o with
  | .dic sc, .dic bn, .dic us, .dic os => isTree s && (areBnds sc b && (areUses sc bn u && (areBnds sc o && (isWords r && !(dkeys os).any (hasKey us)))))
  | _, _, _, _ => false
def smallD (d : D) : Prop := (∀ kvs, d = .dic kvs → kvs.length < sizeLine) ∧ ∀ xs, d = .lst xs ∨ d = .tup xs → xs.length ≤ sizeLine
theorem isProg_no {s b u o r : D} (h : isTree s = false ∨ (∃ sc, s = .dic sc ∧ (areBnds sc b = false ∨ areBnds sc o = false ∨ ∃ bn, b = .dic bn ∧ areUses sc bn u = false)) ∨ isWords r = false) : isProg s b u o r = false := by
  cases s <;> try rfl
  cases b <;> try rfl
  cases u <;> try rfl
  cases o <;> try rfl
  unfold isProg
  dsimp only
  rcases h with h | ⟨sc, e, h⟩ | h
  · rw [h]; rfl
  · cases e
    rcases h with h | h | ⟨bn, e, h⟩
    · rw [h]; simp
    · rw [h]; simp
    · cases e; rw [h]; simp
  · rw [h]; simp
theorem any_bl {xs : List D} (p : D → Bool) {Q : DK} {w : W} (q : Q (.bl (xs.any p)) w) : anyR [.lst (xs.map fun x => .bl (p x))] w Q := ⟨⟨_, all_map _ _, by
  have e : (xs.map p).any id = xs.any p := by rw [List.any_map]; rfl
  rw [e]; exact q⟩⟩
theorem putFD_le {f : Str} {d : D} {k : Nat} : ∀ {fs : List (Str × D)}, fs.length ≤ k → (putFD f d fs).length ≤ k + 1
  | [], _ => Nat.succ_le_succ (Nat.zero_le k)
  | (g, x) :: r, h => by
    unfold putFD
    split
    · exact Nat.le_succ_of_le h
    · cases k with
      | zero => simp at h
      | succ k => exact Nat.succ_le_succ (putFD_le (k := k) (fs := r) (by simpa using h))
def keyStr : Key → Str
  | .inr s => s
  | .inl _ => Str.empty
def strKeys (kvs : List (Key × D)) : Prop := ∃ ss : List Str, kvs.map (·.1) = ss.map Sum.inr ∧ ss.Nodup
def ascD (kvs : List (Key × D)) : List (Key × D) := (sortT (kvs.map fun kv => keyStr kv.1)).map fun s => (Sum.inr s, (valD kvs (.inr s)).getD .non)
theorem strKeys_eq {kvs : List (Key × D)} {ss : List Str} (h : kvs.map (·.1) = ss.map Sum.inr) : (kvs.map fun kv => keyStr kv.1) = ss := by
  have e := congrArg (List.map keyStr) h
  rw [List.map_map, List.map_map] at e
  have e2 : ss.map (keyStr ∘ Sum.inr) = ss := by
    rw [show (keyStr ∘ (Sum.inr : Str → Key)) = id from rfl, List.map_id]
  rw [e2] at e
  exact e
def progFs (sc bn us os : List (Key × D)) (ss : List Str) : List (Str × D) :=
  [("parents", .dic (ascD sc)), ("declared", .dic (ascD bn)), ("targets", .dic (ascD us)), ("outside", .dic (ascD os)), ("blocked", .tup ((sortT (nubT ss)).map .str))]
def wordsOf (r : D) (ss : List Str) : Prop := r = .lst (ss.map .str) ∨ r = .tup (ss.map .str)
theorem small_dic {kvs : List (Key × D)} (h : kvs.length < sizeLine) : smallD (.dic kvs) := ⟨fun k e => (by cases e; exact h), fun xs e => (by rcases e with e | e <;> cases e)⟩
theorem words_in {r : D} {ss : List Str} {w : W} (h : wordsOf r ss) : textsIn r w ss := by
  rcases h with rfl | rfl <;> exact strsOf_map ss
theorem words_small {r : D} {ss : List Str} (h : wordsOf r ss) (z : ss.length ≤ sizeLine) : smallD r := by
  rcases h with rfl | rfl
  · exact ⟨fun k e => (by cases e), fun xs e => (by rcases e with e | e <;> cases e <;> (rw [List.length_map]; exact z))⟩
  · exact ⟨fun k e => (by cases e), fun xs e => (by rcases e with e | e <;> cases e <;> (rw [List.length_map]; exact z))⟩
structure OkProg (sc bn us os : List (Key × D)) (r : D) (ss : List Str) : Prop where
  ok : isProg (.dic sc) (.dic bn) (.dic us) (.dic os) r = true
  p1 : pl (.dic sc) = true
  p2 : pl (.dic bn) = true
  p3 : pl (.dic us) = true
  p4 : pl (.dic os) = true
  p5 : pl r = true
  k1 : strKeys sc ∧ sc.length < sizeLine
  k2 : strKeys bn ∧ bn.length < sizeLine
  k3 : strKeys us ∧ us.length < sizeLine
  k4 : strKeys os ∧ os.length < sizeLine
  wd : wordsOf r ss
  few : ss.length + 1 < scanBound
end DL
namespace DL
open PySem PySem.Spec PyProof.Rows L2
abbrev Tab (α : Type) := List (Str × α)
section
variable {α : Type}
def keysN (t : Tab α) : List Str := t.map (·.1)
def lk (t : Tab α) (s : Str) : Option α := (t.find? fun e => decide (e.1 = s)).map (·.2)
def mK (f : α → D) (t : Tab α) : List (Key × D) := t.map fun e => (Sum.inr e.1, f e.2)
theorem lk_cons {e : Str × α} {t : Tab α} {s : Str} : lk (e :: t) s = if e.1 = s then some e.2 else lk t s := by
  unfold lk
  rw [List.find?_cons]
  by_cases h : e.1 = s
  · simp [h]
  · simp [h]
theorem lk_append {t t' : Tab α} {s : Str} : lk (t ++ t') s = (lk t s).or (lk t' s) := by
  induction t with
  | nil => rfl
  | cons e r ih =>
    rw [List.cons_append, lk_cons, lk_cons, ih]
    split <;> rfl
theorem valD_mK (f : α → D) (t : Tab α) (s : Str) : valD (mK f t) (.inr s) = (lk t s).map f := by
  induction t with
  | nil => rfl
  | cons e r ih =>
    rw [lk_cons]
    have e1 : valD (mK f (e :: r)) (.inr s) = if e.1 = s then some (f e.2) else valD (mK f r) (.inr s) := by
      unfold valD mK
      rw [List.map_cons, List.find?_cons]
      by_cases h : e.1 = s
      · simp [h]
      · simp [h]
    rw [e1, ih]
    split <;> rfl
theorem dkeys_mK (f : α → D) (t : Tab α) : dkeys (mK f t) = (keysN t).map .str := by
  unfold dkeys mK keysN
  rw [List.map_map, List.map_map]
  rfl
theorem dvals_mK (f : α → D) (t : Tab α) : dvals (mK f t) = t.map fun e => f e.2 := by
  unfold dvals mK
  rw [List.map_map]
  rfl
theorem ditems_mK (f : α → D) (t : Tab α) : ditems (mK f t) = t.map fun e => .tup [.str e.1, f e.2] := by
  unfold ditems mK
  rw [List.map_map]
  rfl
theorem len_mK (f : α → D) (t : Tab α) : (mK f t).length = t.length := by unfold mK; rw [List.length_map]
theorem len_keysN (t : Tab α) : (keysN t).length = t.length := by unfold keysN; rw [List.length_map]
theorem keysN_append (t t' : Tab α) : keysN (t ++ t') = keysN t ++ keysN t' := by unfold keysN; rw [List.map_append]
theorem mK_keys (f : α → D) (t : Tab α) : (mK f t).map (·.1) = (keysN t).map Sum.inr := by
  unfold mK keysN
  rw [List.map_map, List.map_map]
  rfl
theorem lk_mem {t : Tab α} {s : Str} {a : α} (h : lk t s = some a) : (s, a) ∈ t := by
  unfold lk at h
  cases e : t.find? (fun e => decide (e.1 = s)) with
  | none => rw [e] at h; cases h
  | some q =>
    rw [e] at h; cases h
    have m := List.mem_of_find?_eq_some e
    have p : q.1 = s := by simpa using List.find?_some e
    subst p
    exact m
theorem lk_key {t : Tab α} {s : Str} {a : α} (h : lk t s = some a) : s ∈ keysN t := List.mem_map.mpr ⟨_, lk_mem h, rfl⟩
theorem lk_some {t : Tab α} {s : Str} (h : s ∈ keysN t) : ∃ a, lk t s = some a := by
  induction t with
  | nil => cases h
  | cons e r ih =>
    rw [lk_cons]
    by_cases q : e.1 = s
    · exact ⟨_, if_pos q⟩
    · rw [if_neg q]
      refine ih ?_
      rcases List.mem_cons.mp h with z | z
      · exact absurd z.symm q
      · exact z
theorem lk_none {t : Tab α} {s : Str} (h : s ∉ keysN t) : lk t s = none := by
  cases e : lk t s with
  | none => rfl
  | some a => exact absurd (lk_key e) h
theorem lk_isSome {t : Tab α} {s : Str} : (lk t s).isSome = true ↔ s ∈ keysN t :=
  ⟨fun h => let ⟨_, e⟩ := Option.isSome_iff_exists.mp h; lk_key e, fun h => let ⟨a, e⟩ := lk_some h; by rw [e]; rfl⟩
theorem lk_of_mem {t : Tab α} (nd : (keysN t).Nodup) {s : Str} {a : α} (h : (s, a) ∈ t) : lk t s = some a := by
  induction t with
  | nil => cases h
  | cons e r ih =>
    rw [lk_cons]
    have nd' : e.1 ∉ keysN r ∧ (keysN r).Nodup := List.nodup_cons.mp nd
    rcases List.mem_cons.mp h with z | z
    · subst z; exact if_pos rfl
    · have : e.1 ≠ s := fun q => nd'.1 (q ▸ List.mem_map.mpr ⟨_, z, rfl⟩)
      rw [if_neg this]
      exact ih nd'.2 z
theorem perm_keys {t t' : Tab α} (p : t.Perm t') : (keysN t).Perm (keysN t') := p.map _
theorem lk_perm {t t' : Tab α} (nd : (keysN t).Nodup) (p : t.Perm t') (s : Str) : lk t' s = lk t s := by
  have nd' : (keysN t').Nodup := (perm_keys p).nodup_iff.mp nd
  cases e : lk t s with
  | none =>
    refine lk_none fun m => ?_
    obtain ⟨a, q⟩ := lk_some ((perm_keys p).mem_iff.mpr m)
    rw [e] at q; cases q
  | some a => exact lk_of_mem nd' (p.mem_iff.mp (lk_mem e))
def putN (t : Tab α) (s : Str) (a : α) : Tab α := if s ∈ keysN t then t.map (fun e => if e.1 = s then (e.1, a) else e) else t ++ [(s, a)]
theorem putD_mK (f : α → D) (t : Tab α) (s : Str) (a : α) : putD (mK f t) (.inr s) (f a) = mK f (putN t s a) := by
  have h : ((mK f t).any fun kv => decide (kv.1 = Sum.inr s)) = decide (s ∈ keysN t) := by
    unfold mK keysN
    rw [List.any_map, Bool.eq_iff_iff, List.any_eq_true, decide_eq_true_eq, List.mem_map]
    constructor
    · rintro ⟨x, hx, e⟩
      refine ⟨x, hx, ?_⟩
      have e : (Sum.inr x.1 : Key) = Sum.inr s := of_decide_eq_true e
      exact Sum.inr.inj e
    · rintro ⟨x, hx, e⟩
      exact ⟨x, hx, decide_eq_true (show (Sum.inr x.1 : Key) = Sum.inr s by rw [e])⟩
  unfold putD putN
  rw [h]
  by_cases q : s ∈ keysN t
  · rw [if_pos (decide_eq_true q), if_pos q]
    unfold mK
    rw [List.map_map, List.map_map]
    refine List.map_congr_left fun e _ => ?_
    simp only [Function.comp]
    by_cases z : e.1 = s
    · rw [if_pos z, if_pos (by rw [z])]
    · rw [if_neg z, if_neg (fun y => z (Sum.inr.inj y))]
  · rw [if_neg (by rw [decide_eq_false q]; decide), if_neg q]
    unfold mK
    rw [List.map_append]
    rfl
theorem keysN_putN (t : Tab α) (s : Str) (a : α) : keysN (putN t s a) = if s ∈ keysN t then keysN t else keysN t ++ [s] := by
  unfold putN
  split
  · unfold keysN
    rw [List.map_map]
    refine List.map_congr_left fun e _ => ?_
    simp only [Function.comp]
    split <;> rfl
  · rw [keysN_append]; rfl
theorem nodup_putN {t : Tab α} (nd : (keysN t).Nodup) (s : Str) (a : α) : (keysN (putN t s a)).Nodup := by
  rw [keysN_putN]
  split
  · exact nd
  · rename_i h
    rw [List.nodup_append]
    refine ⟨nd, by simp, fun x hx y hy => ?_⟩
    rw [List.mem_singleton] at hy
    subst hy
    exact fun z => h (z ▸ hx)
theorem lk_map_ne (f : Str × α → α) {t : Tab α} {s j : Str} : lk (t.map fun e => if e.1 = s then (e.1, f e) else e) j = if s = j then ((t.find? fun e => decide (e.1 = j)).map f) else lk t j := by
  induction t with
  | nil => split <;> rfl
  | cons e r ih =>
    rw [List.map_cons, lk_cons, ih]
    by_cases h : s = j
    · subst h
      rw [if_pos rfl, if_pos rfl, List.find?_cons]
      by_cases q : e.1 = s
      · simp [q]
      · simp [q]
    · rw [if_neg h, if_neg h, lk_cons]
      by_cases q : e.1 = s
      · have : e.1 ≠ j := fun z => h (q ▸ z)
        simp [q, h]
      · rw [if_neg q]
theorem lk_putN (t : Tab α) (s j : Str) (a : α) : lk (putN t s a) j = if s = j then some a else lk t j := by
  unfold putN
  split
  · rename_i h
    rw [lk_map_ne fun _ => a]
    by_cases q : s = j
    · subst q
      rw [if_pos rfl, if_pos rfl]
      obtain ⟨b, hb⟩ := lk_some h
      unfold lk at hb
      cases e : t.find? (fun e => decide (e.1 = s)) with
      | none => rw [e] at hb; cases hb
      | some q => rfl
    · rw [if_neg q, if_neg q]
  · rename_i h
    rw [lk_append, lk_cons]
    by_cases q : s = j
    · subst q
      rw [if_pos rfl, if_pos rfl, lk_none h]
      rfl
    · rw [if_neg q, if_neg q]
      cases lk t j <;> rfl
theorem putN_new {t : Tab α} {s : Str} {a : α} (h : s ∉ keysN t) : putN t s a = t ++ [(s, a)] := if_neg h
def ascN (t : Tab α) : Tab α := t.mergeSort fun a b => leT a.1 b.1
theorem ascN_perm (t : Tab α) : (ascN t).Perm t := List.mergeSort_perm _ _
theorem keysN_ascN (t : Tab α) : keysN (ascN t) = sortT (keysN t) := by
  unfold keysN ascN sortT
  exact List.map_mergeSort fun a _ b _ => rfl
theorem nodup_ascN {t : Tab α} (nd : (keysN t).Nodup) : (keysN (ascN t)).Nodup := (perm_keys (ascN_perm t)).nodup_iff.mpr nd
theorem lk_ascN {t : Tab α} (nd : (keysN t).Nodup) (s : Str) : lk (ascN t) s = lk t s := lk_perm nd (ascN_perm t).symm s
theorem len_ascN (t : Tab α) : (ascN t).length = t.length := (ascN_perm t).length_eq
theorem ascD_mK (f : α → D) {t : Tab α} (nd : (keysN t).Nodup) : ascD (mK f t) = mK f (ascN t) := by
  have h1 : ((mK f t).map fun kv => keyStr kv.1) = keysN t := by
    unfold mK keysN
    rw [List.map_map]
    rfl
  unfold ascD
  rw [h1, ← keysN_ascN]
  unfold keysN mK
  rw [List.map_map]
  refine List.map_congr_left fun e he => ?_
  simp only [Function.comp]
  have h2 := valD_mK f t e.1
  unfold mK at h2
  rw [h2, lk_of_mem nd (a := e.2) ((ascN_perm t).mem_iff.mp he)]
  rfl
def Srt (t : Tab α) : Prop := (keysN t).Pairwise fun a b => leT a b = true
theorem srt_ascN (t : Tab α) : Srt (ascN t) := by
  unfold Srt
  rw [keysN_ascN]
  exact sortT_ord _
theorem sortT_srt {xs : List Str} (h : xs.Pairwise fun a b => leT a b = true) : sortT xs = xs := List.mergeSort_of_pairwise h
theorem strKeys_mK (f : α → D) {t : Tab α} (nd : (keysN t).Nodup) : strKeys (mK f t) := ⟨keysN t, mK_keys f t, nd⟩
end
theorem sort_same {xs ys : List Str} (hx : xs.Nodup) (hy : ys.Nodup) (h : ∀ s, s ∈ xs ↔ s ∈ ys) : sortT xs = sortT ys :=
  sortT_eq ((List.perm_ext_iff_of_nodup hx hy).mpr h)
theorem sort_nub {xs ys : List Str} (h : ∀ s, s ∈ xs ↔ s ∈ ys) : sortT (nubT xs) = sortT (nubT ys) :=
  sort_same (nubT_nodup _) (nubT_nodup _) fun s => by rw [nubT_mem, nubT_mem, h]
theorem mem_sortT {xs : List Str} {s : Str} : s ∈ sortT xs ↔ s ∈ xs := (sortT_perm xs).mem_iff
theorem len_sub {xs ys : List Str} (nd : xs.Nodup) (h : ∀ s ∈ xs, s ∈ ys) : xs.length ≤ ys.length := by
  induction xs generalizing ys with
  | nil => exact Nat.zero_le _
  | cons x r ih =>
    have nd' := List.nodup_cons.mp nd
    have hx := h x (List.mem_cons_self ..)
    have p := (List.perm_cons_erase hx).length_eq
    have q := ih (ys := ys.erase x) nd'.2 fun s hs => (List.mem_erase_of_ne (fun (e : s = x) => nd'.1 (e ▸ hs))).mpr (h s (List.mem_cons_of_mem _ hs))
    simp at p ⊢
    omega
abbrev Sc := Tab (Option Str)
abbrev Tb := Tab (Str × Str)
structure Parts where
  sc : Sc
  bn : Tb
  us : Tb
  ou : Tb
  rs : List Str
  deriving DecidableEq
def oD : Option Str → D
  | none => .non
  | some s => .str s
def pD (p : Str × Str) : D := .tup [.str p.1, .str p.2]
abbrev scK (sc : Sc) : List (Key × D) := mK oD sc
abbrev tbK (t : Tb) : List (Key × D) := mK pD t
def wayN (sc : Sc) : Nat → Str → List Str
  | 0, s => [s]
  | n + 1, s => s :: (match lk sc s with | some (some y) => wayN sc n y | _ => [])
def way (sc : Sc) (s : Str) : List Str := wayN sc sc.length s
theorem wayGo_scK (sc : Sc) : ∀ (n : Nat) (s : Str), wayGo (scK sc) n s = wayN sc n s
  | 0, _ => rfl
  | n + 1, s => by
    unfold wayGo wayN
    rw [valD_mK]
    cases lk sc s with
    | none => rfl
    | some p =>
      cases p with
      | none => rfl
      | some y => show s :: wayGo (scK sc) n y = s :: wayN sc n y; rw [wayGo_scK sc n y]
theorem wayOut_scK (sc : Sc) (s : Str) : wayOut (scK sc) s = way sc s := by
  unfold wayOut way
  rw [wayGo_scK, len_mK]
structure ScOk (sc : Sc) : Prop where
  nd : (keysN sc).Nodup
  wd : ∀ s ∈ keysN sc, wordS s = true
  cl : ∀ s p, lk sc s = some (some p) → p ∈ keysN sc
  rt : ∃ r, lk sc r = some none ∧ ∀ s ∈ keysN sc, ∃ pre, way sc s = pre ++ [r]
theorem wayN_more {sc : Sc} {r : Str} (hr : lk sc r = some none) : ∀ {n : Nat} {s : Str} {pre : List Str}, wayN sc n s = pre ++ [r] → ∀ m, n ≤ m → wayN sc m s = pre ++ [r]
  | 0, s, pre, h, m, _ => by
    have hs : s = r ∧ pre = [] := by
      have h : [s] = pre ++ [r] := h
      cases pre with
      | nil => simp at h; exact ⟨h, rfl⟩
      | cons a p => simp at h
    obtain ⟨rfl, rfl⟩ := hs
    cases m with
    | zero => rfl
    | succ m => unfold wayN; rw [hr]; rfl
  | n + 1, s, pre, h, m, hm => by
    obtain ⟨m, rfl⟩ : ∃ m', m = m' + 1 := ⟨m - 1, by omega⟩
    unfold wayN at h ⊢
    cases e : lk sc s with
    | none => rw [e] at h; exact h
    | some p =>
      cases p with
      | none => rw [e] at h; exact h
      | some y =>
        rw [e] at h
        have h : s :: wayN sc n y = pre ++ [r] := h
        show s :: wayN sc m y = pre ++ [r]
        cases pre with
        | nil =>
          exfalso
          have h : s :: wayN sc n y = [r] := h
          have : wayN sc n y = [] := by simpa using (List.cons.inj h).2
          cases n <;> (unfold wayN at this; simp at this)
        | cons a p =>
          have h := List.cons.inj h
          rw [wayN_more hr h.2 m (by omega), h.1]
          rfl
namespace ScOk
variable {sc : Sc}
theorem pos (o : ScOk sc) {s : Str} (h : s ∈ keysN sc) : 0 < sc.length := by
  rw [← len_keysN]
  exact List.length_pos_of_mem h
theorem way_root (o : ScOk sc) {s : Str} (h : lk sc s = some none) : way sc s = [s] := by
  have := o.pos (lk_key h)
  unfold way
  obtain ⟨n, e⟩ : ∃ n, sc.length = n + 1 := ⟨sc.length - 1, by omega⟩
  rw [e]
  unfold wayN
  rw [h]
theorem root_eq (o : ScOk sc) : ∃ r, lk sc r = some none ∧ (∀ s ∈ keysN sc, ∃ pre, way sc s = pre ++ [r]) ∧ ∀ s, lk sc s = some none → s = r := by
  obtain ⟨r, hr, hw⟩ := o.rt
  refine ⟨r, hr, hw, fun s hs => ?_⟩
  obtain ⟨pre, e⟩ := hw s (lk_key hs)
  rw [o.way_root hs] at e
  cases pre with
  | nil => simpa using e
  | cons a p => simp at e
theorem way_cons (o : ScOk sc) {s p : Str} (h : lk sc s = some (some p)) : way sc s = s :: way sc p := by
  obtain ⟨r, hr, hw⟩ := o.rt
  have := o.pos (lk_key h)
  obtain ⟨n, e⟩ : ∃ n, sc.length = n + 1 := ⟨sc.length - 1, by omega⟩
  obtain ⟨pre, hp⟩ := hw s (lk_key h)
  have h1 : way sc s = s :: wayN sc n p := by
    show wayN sc sc.length s = _
    rw [e]
    show s :: (match lk sc s with | some (some y) => wayN sc n y | _ => []) = _
    rw [h]
  rw [h1] at hp ⊢
  have h2 : ∃ pre', wayN sc n p = pre' ++ [r] := by
    cases pre with
    | nil =>
      exfalso
      have : wayN sc n p = [] := by simpa using (List.cons.inj hp).2
      cases n <;> (unfold wayN at this; simp at this)
    | cons a q => exact ⟨q, (List.cons.inj hp).2⟩
  obtain ⟨pre', h2⟩ := h2
  unfold way
  rw [h2, wayN_more hr h2 sc.length (by omega)]
theorem ind (o : ScOk sc) {P : Str → Prop} (h0 : ∀ s, lk sc s = some none → P s) (h1 : ∀ s p, lk sc s = some (some p) → P p → P s) : ∀ s ∈ keysN sc, P s := by
  have key : ∀ (n : Nat) (s : Str), s ∈ keysN sc → (way sc s).length = n → P s := by
    intro n
    induction n with
    | zero =>
      intro s hs hn
      obtain ⟨a, ha⟩ := lk_some hs
      cases a with
      | none => rw [o.way_root ha] at hn; cases hn
      | some p => rw [o.way_cons ha] at hn; cases hn
    | succ n ih =>
      intro s hs hn
      obtain ⟨a, ha⟩ := lk_some hs
      cases a with
      | none => exact h0 s ha
      | some p =>
        rw [o.way_cons ha] at hn
        exact h1 s p ha (ih p (o.cl s p ha) (by simpa using hn))
  exact fun s hs => key _ s hs rfl
theorem self_mem (o : ScOk sc) {s : Str} (h : s ∈ keysN sc) : s ∈ way sc s := by
  obtain ⟨a, ha⟩ := lk_some h
  cases a with
  | none => rw [o.way_root ha]; exact List.mem_cons_self ..
  | some p => rw [o.way_cons ha]; exact List.mem_cons_self ..
theorem way_keys (o : ScOk sc) : ∀ s ∈ keysN sc, ∀ t ∈ way sc s, t ∈ keysN sc := by
  refine o.ind (fun s h t ht => ?_) (fun s p h ih t ht => ?_)
  · rw [o.way_root h] at ht
    rw [List.mem_singleton.mp ht]
    exact lk_key h
  · rw [o.way_cons h] at ht
    rcases List.mem_cons.mp ht with rfl | ht
    · exact lk_key h
    · exact ih t ht
theorem way_mid (o : ScOk sc) : ∀ s ∈ keysN sc, ∀ t ∈ way sc s, ∃ pre, way sc s = pre ++ way sc t := by
  refine o.ind (fun s h t ht => ?_) (fun s p h ih t ht => ?_)
  · rw [o.way_root h] at ht
    rw [List.mem_singleton.mp ht]
    exact ⟨[], rfl⟩
  · rw [o.way_cons h] at ht
    rcases List.mem_cons.mp ht with rfl | ht
    · exact ⟨[], rfl⟩
    · obtain ⟨pre, e⟩ := ih t ht
      exact ⟨s :: pre, by rw [o.way_cons h, e]; rfl⟩
theorem way_nodup (o : ScOk sc) : ∀ s ∈ keysN sc, (way sc s).Nodup := by
  refine o.ind (fun s h => ?_) (fun s p h ih => ?_)
  · rw [o.way_root h]; simp
  · rw [o.way_cons h, List.nodup_cons]
    refine ⟨fun hm => ?_, ih⟩
    obtain ⟨pre, e⟩ := o.way_mid p (o.cl s p h) s hm
    have := congrArg List.length e
    rw [o.way_cons h] at this
    simp at this
    omega
end ScOk
theorem wayN_congr {sc sc' : Sc} (h : ∀ s, lk sc' s = lk sc s) : ∀ (n : Nat) (s : Str), wayN sc' n s = wayN sc n s
  | 0, _ => rfl
  | n + 1, s => by
    unfold wayN
    rw [h s]
    cases lk sc s with
    | none => rfl
    | some p =>
      cases p with
      | none => rfl
      | some y => show s :: wayN sc' n y = s :: wayN sc n y; rw [wayN_congr h n y]
theorem way_perm {sc sc' : Sc} (nd : (keysN sc).Nodup) (p : sc.Perm sc') (s : Str) : way sc' s = way sc s := by
  unfold way
  rw [wayN_congr (lk_perm nd p), p.length_eq]
theorem ScOk.perm {sc sc' : Sc} (o : ScOk sc) (p : sc.Perm sc') : ScOk sc' := by
  have pk := perm_keys p
  refine ⟨pk.nodup_iff.mp o.nd, fun s h => o.wd s (pk.mem_iff.mpr h), fun s q h => ?_, ?_⟩
  · rw [lk_perm o.nd p] at h
    exact pk.mem_iff.mp (o.cl s q h)
  · obtain ⟨r, hr, hw⟩ := o.rt
    exact ⟨r, by rw [lk_perm o.nd p]; exact hr, fun s h => by
      rw [way_perm o.nd p]
      exact hw s (pk.mem_iff.mpr h)⟩
theorem ScOk.asc {sc : Sc} (o : ScOk sc) : ScOk (ascN sc) := o.perm (ascN_perm sc).symm
theorem ScOk.closed {sc : Sc} (o : ScOk sc) : Closed (scK sc) := by
  intro s d h
  rw [valD_mK] at h
  cases e : lk sc s with
  | none => rw [e] at h; cases h
  | some p =>
    rw [e] at h; cases h
    cases p with
    | none => exact .inl rfl
    | some y =>
      refine .inr ⟨y, rfl, ?_⟩
      rw [valD_mK]
      obtain ⟨a, ha⟩ := lk_some (o.cl s y e)
      rw [ha]
      rfl
theorem isKey_mK {α : Type} (f : α → D) {t : Tab α} {s : Str} : isKey (mK f t) (.str s) = decide (s ∈ keysN t) := by
  show (valD (mK f t) (.inr s)).isSome = _
  rw [valD_mK, Option.isSome_map, Bool.eq_iff_iff, lk_isSome, decide_eq_true_eq]
theorem filter_one {xs : List Str} {p : Str → Bool} {r : Str} (nd : xs.Nodup) (hr : r ∈ xs) (hp : p r = true) (h : ∀ s ∈ xs, p s = true → s = r) : xs.filter p = [r] := by
  induction xs with
  | nil => cases hr
  | cons x t ih =>
    have nd' := List.nodup_cons.mp nd
    by_cases e : x = r
    · subst e
      rw [List.filter_cons_of_pos hp]
      have : t.filter p = [] := by
        rw [List.filter_eq_nil_iff]
        intro s hs hq
        have := h s (List.mem_cons_of_mem _ hs) hq
        exact nd'.1 (this ▸ hs)
      rw [this]
    · have hx : ¬ p x = true := fun q => e (h x (List.mem_cons_self ..) q)
      rw [List.filter_cons_of_neg hx]
      refine ih nd'.2 ?_ fun s hs => h s (List.mem_cons_of_mem _ hs)
      rcases List.mem_cons.mp hr with z | z
      · exact absurd z.symm e
      · exact z
theorem ScOk.isTree {sc : Sc} (o : ScOk sc) : isTree (.dic (scK sc)) = true := by
  obtain ⟨r, hr, hw, hu⟩ := o.root_eq
  have hroots : rootsOf (scK sc) = [.str r] := by
    unfold rootsOf
    rw [dkeys_mK, List.filter_map]
    have e : (nonAt (scK sc) ∘ D.str) = fun s => decide (lk sc s = some none) := by
      funext s
      show (match valD (scK sc) (.inr s) with | some .non => true | _ => false) = _
      rw [valD_mK]
      cases lk sc s with
      | none => rfl
      | some p => cases p <;> rfl
    rw [e, filter_one (r := r) o.nd (lk_key hr) (decide_eq_true hr) fun s _ h => hu s (of_decide_eq_true h)]
    rfl
  rw [isTree_dic, Bool.and_eq_true, Bool.and_eq_true, Bool.and_eq_true]
  refine ⟨?_, ?_, by rw [hroots]; rfl, ?_⟩
  · rw [dkeys_mK, List.all_map]
    exact List.all_eq_true.mpr fun s hs => o.wd s hs
  · rw [dvals_mK, List.all_map]
    refine List.all_eq_true.mpr fun e he => ?_
    show (isNon (oD e.2) || isKey (scK sc) (oD e.2)) = true
    obtain ⟨s, p⟩ := e
    cases p with
    | none => rfl
    | some y =>
      show (false || isKey (scK sc) (.str y)) = true
      rw [Bool.false_or, isKey_mK]
      exact decide_eq_true (o.cl s y (lk_of_mem o.nd he))
  · rw [dkeys_mK, List.all_map]
    refine List.all_eq_true.mpr fun s hs => ?_
    obtain ⟨pre, e⟩ := hw s hs
    show (match (wayOut (scK sc) s).getLast?, (rootsOf (scK sc)).head? with | some a, some (.str b) => decide (a = b) | _, _ => false) = true
    rw [wayOut_scK, e, hroots]
    simp
structure WF (P : Parts) : Prop where
  sc : ScOk P.sc
  bnd : (keysN P.bn).Nodup
  bwd : ∀ e ∈ P.bn, wordS e.1 = true ∧ wordS e.2.2 = true ∧ e.2.1 ∈ keysN P.sc
  usd : (keysN P.us).Nodup
  uwd : ∀ e ∈ P.us, wordS e.1 = true ∧ e.2.1 ∈ keysN P.sc ∧ ∃ b, lk P.bn e.2.2 = some b ∧ b.1 ∈ way P.sc e.2.1
  oud : (keysN P.ou).Nodup
  owd : ∀ e ∈ P.ou, wordS e.1 = true ∧ wordS e.2.2 = true ∧ e.2.1 ∈ keysN P.sc
  dis : ∀ s ∈ keysN P.ou, s ∉ keysN P.us
  rwd : ∀ s ∈ P.rs, wordS s = true
  sm : P.sc.length ≤ 1000 ∧ P.bn.length ≤ 1000 ∧ P.us.length ≤ 1000 ∧ P.ou.length ≤ 1000 ∧ P.rs.length ≤ 1000
theorem word_len {s : Str} (h : wordS s = true) : s.length ≤ 8 := by
  unfold wordS at h
  simp only [Bool.and_eq_true, decide_eq_true_eq] at h
  exact h.1.1.2
theorem word_pl {s : Str} (h : wordS s = true) : pl (.str s) = true := by
  unfold pl
  exact decide_eq_true (Nat.le_trans (word_len h) (sz_nat 8))
theorem plK_of {α : Type} (f : α → D) : ∀ {t : Tab α}, (∀ e ∈ t, wordS e.1 = true ∧ pl (f e.2) = true) → plK (mK f t) = true
  | [], _ => by unfold mK plK; rfl
  | e :: r, h => by
    have h1 := h e (List.mem_cons_self ..)
    have ih := plK_of f (t := r) fun x hx => h x (List.mem_cons_of_mem _ hx)
    unfold mK at ih ⊢
    rw [List.map_cons]
    unfold plK
    rw [ih, h1.2]
    simp only [Bool.and_true]
    exact decide_eq_true (Nat.le_trans (word_len h1.1) (sz_nat 8))
theorem plL_strs : ∀ {xs : List Str}, (∀ s ∈ xs, wordS s = true) → plL (xs.map .str) = true
  | [], _ => by unfold plL; rfl
  | x :: r, h => by
    rw [List.map_cons]
    unfold plL
    rw [plL_strs fun s hs => h s (List.mem_cons_of_mem _ hs), word_pl (h x (List.mem_cons_self ..))]
    rfl
theorem pl_pD {p : Str × Str} (h1 : wordS p.1 = true) (h2 : wordS p.2 = true) : pl (pD p) = true := by
  unfold pD pl
  exact plL_strs (xs := [p.1, p.2]) fun s hs => by
    simp only [List.mem_cons, List.not_mem_nil, or_false] at hs
    rcases hs with rfl | rfl
    · exact h1
    · exact h2
theorem bnds_nat {sc : Sc} {t : Tb} (h : ∀ e ∈ t, wordS e.1 = true ∧ wordS e.2.2 = true ∧ e.2.1 ∈ keysN sc) : areBnds (scK sc) (.dic (tbK t)) = true := by
  rw [areBnds_dic, Bool.and_eq_true]
  refine ⟨?_, ?_⟩
  · unfold namesPairs
    rw [ditems_mK, List.all_map]
    refine List.all_eq_true.mpr fun e he => ?_
    show (isWord (.str e.1) && isPair (pD e.2)) = true
    rw [show isWord (.str e.1) = true from (h e he).1]
    rfl
  · rw [dvals_mK, List.all_map]
    refine List.all_eq_true.mpr fun e he => ?_
    show (isKey (scK sc) (.str e.2.1) && isWord (.str e.2.2)) = true
    rw [isKey_mK, decide_eq_true (h e he).2.2, show isWord (.str e.2.2) = true from (h e he).2.1]
    rfl
theorem keys_word {P : Parts} (o : WF P) {s : Str} (h : s ∈ keysN P.bn) : wordS s = true := by
  obtain ⟨e, he, rfl⟩ := List.mem_map.mp h
  exact (o.bwd e he).1
theorem uses_nat {P : Parts} (o : WF P) : areUses (scK P.sc) (tbK P.bn) (.dic (tbK P.us)) = true := by
  rw [areUses_dic, Bool.and_eq_true, Bool.and_eq_true]
  refine ⟨?_, ?_, ?_⟩
  · unfold namesPairs
    rw [ditems_mK, List.all_map]
    refine List.all_eq_true.mpr fun e he => ?_
    show (isWord (.str e.1) && isPair (pD e.2)) = true
    rw [show isWord (.str e.1) = true from (o.uwd e he).1]
    rfl
  · rw [dvals_mK, List.all_map]
    refine List.all_eq_true.mpr fun e he => ?_
    show (isKey (scK P.sc) (.str e.2.1) && isKey (tbK P.bn) (.str e.2.2)) = true
    obtain ⟨_, h1, b, h2, _⟩ := o.uwd e he
    rw [isKey_mK, isKey_mK, decide_eq_true h1, decide_eq_true (lk_key h2)]
    rfl
  · rw [dvals_mK, List.all_map]
    refine List.all_eq_true.mpr fun e he => ?_
    show (match valD (tbK P.bn) (.inr e.2.2) with | some (.tup [.str b, _]) => decide (b ∈ wayOut (scK P.sc) e.2.1) | _ => false) = true
    obtain ⟨_, h1, b, h2, h3⟩ := o.uwd e he
    rw [valD_mK, h2, wayOut_scK]
    exact decide_eq_true h3
theorem oD_pl {sc : Sc} (o : ScOk sc) {e : Str × Option Str} (he : e ∈ sc) : pl (oD e.2) = true := by
  obtain ⟨s, p⟩ := e
  cases p with
  | none => rfl
  | some y => exact word_pl (o.wd y (o.cl s y (lk_of_mem o.nd he)))
theorem key_of {α : Type} {t : Tab α} {e : Str × α} (h : e ∈ t) : e.1 ∈ keysN t := List.mem_map.mpr ⟨e, h, rfl⟩
theorem words_all {r : D} {ss : List Str} (h : wordsOf r ss) (hw : ∀ s ∈ ss, wordS s = true) : isWords r = true ∧ pl r = true := by
  have h1 : (ss.map D.str).all isWord = true := by
    rw [List.all_map]
    exact List.all_eq_true.mpr fun s hs => hw s hs
  have h2 := plL_strs hw
  rcases h with rfl | rfl
  · exact ⟨h1, by unfold pl; exact h2⟩
  · exact ⟨h1, by unfold pl; exact h2⟩
theorem WF.okProg {P : Parts} (o : WF P) {r : D} (h : wordsOf r P.rs) : OkProg (scK P.sc) (tbK P.bn) (tbK P.us) (tbK P.ou) r P.rs := by
  obtain ⟨z1, z2, z3, z4, z5⟩ := o.sm
  have big : (1000 : Nat) < sizeLine := by rw [sizeLine_eq]; decide
  have hw := words_all h o.rwd
  have lt : ∀ {n : Nat}, n ≤ 1000 → n < sizeLine := fun h => Nat.lt_of_le_of_lt h big
  refine ⟨?_, ?_, ?_, ?_, ?_, hw.2, ⟨strKeys_mK _ o.sc.nd, by rw [len_mK]; exact lt z1⟩, ⟨strKeys_mK _ o.bnd, by rw [len_mK]; exact lt z2⟩, ⟨strKeys_mK _ o.usd, by rw [len_mK]; exact lt z3⟩, ⟨strKeys_mK _ o.oud, by rw [len_mK]; exact lt z4⟩, h, ?_⟩
  · unfold isProg
    dsimp only
    rw [o.sc.isTree, bnds_nat o.bwd, uses_nat o, bnds_nat o.owd, hw.1]
    simp only [Bool.true_and, Bool.not_eq_true', dkeys_mK, List.any_map]
    rw [Bool.eq_false_iff]
    intro hh
    obtain ⟨s, hs, e⟩ := List.any_eq_true.mp hh
    have e : (valD (tbK P.us) (.inr s)).isSome = true := e
    rw [valD_mK, Option.isSome_map, lk_isSome] at e
    exact o.dis s hs e
  · unfold pl
    exact plK_of oD fun e he => ⟨o.sc.wd e.1 (key_of he), oD_pl o.sc he⟩
  · unfold pl
    exact plK_of pD fun e he => ⟨(o.bwd e he).1, pl_pD (o.sc.wd _ (o.bwd e he).2.2) (o.bwd e he).2.1⟩
  · unfold pl
    refine plK_of pD fun e he => ?_
    obtain ⟨h0, h1, b, h2, _⟩ := o.uwd e he
    exact ⟨h0, pl_pD (o.sc.wd _ h1) (keys_word o (lk_key h2))⟩
  · unfold pl
    exact plK_of pD fun e he => ⟨(o.owd e he).1, pl_pD (o.sc.wd _ (o.owd e he).2.2) (o.owd e he).2.1⟩
  · refine Nat.lt_of_le_of_lt (Nat.succ_le_succ z5) (by decide)
def progF (P : Parts) : List (Str × D) := [("parents", .dic (scK P.sc)), ("declared", .dic (tbK P.bn)), ("targets", .dic (tbK P.us)), ("outside", .dic (tbK P.ou)), ("blocked", .tup (P.rs.map .str))]
def progD (P : Parts) : D := .obj "Program" (progF P)
def sortP (P : Parts) : Parts := ⟨ascN P.sc, ascN P.bn, ascN P.us, ascN P.ou, sortT (nubT P.rs)⟩
theorem progFs_nat {P : Parts} (o : WF P) : progFs (scK P.sc) (tbK P.bn) (tbK P.us) (tbK P.ou) P.rs = progF (sortP P) := by
  unfold progFs progF sortP
  rw [ascD_mK _ o.sc.nd, ascD_mK _ o.bnd, ascD_mK _ o.usd, ascD_mK _ o.oud]
theorem WF.sort {P : Parts} (o : WF P) : WF (sortP P) := by
  have pk := perm_keys (ascN_perm P.sc)
  have hsc : ∀ s, s ∈ keysN P.sc → s ∈ keysN (ascN P.sc) := fun s h => pk.mem_iff.mpr h
  obtain ⟨z1, z2, z3, z4, z5⟩ := o.sm
  refine ⟨o.sc.asc, nodup_ascN o.bnd, fun e he => ?_, nodup_ascN o.usd, fun e he => ?_, nodup_ascN o.oud, fun e he => ?_, fun s hs hu => ?_, fun s hs => ?_, ?_⟩
  · obtain ⟨h1, h2, h3⟩ := o.bwd e ((ascN_perm _).mem_iff.mp he)
    exact ⟨h1, h2, hsc _ h3⟩
  · obtain ⟨h1, h2, b, h3, h4⟩ := o.uwd e ((ascN_perm _).mem_iff.mp he)
    refine ⟨h1, hsc _ h2, b, by show lk (ascN P.bn) _ = _; rw [lk_ascN o.bnd]; exact h3, ?_⟩
    show b.1 ∈ way (ascN P.sc) _
    rw [way_perm o.sc.nd (ascN_perm P.sc).symm]
    exact h4
  · obtain ⟨h1, h2, h3⟩ := o.owd e ((ascN_perm _).mem_iff.mp he)
    exact ⟨h1, h2, hsc _ h3⟩
  · exact o.dis s ((perm_keys (ascN_perm P.ou)).mem_iff.mp hs) ((perm_keys (ascN_perm P.us)).mem_iff.mp hu)
  · have hs : s ∈ sortT (nubT P.rs) := hs
    rw [mem_sortT, nubT_mem] at hs
    exact o.rwd s hs
  · refine ⟨by show (ascN P.sc).length ≤ _; rw [len_ascN]; exact z1, by show (ascN P.bn).length ≤ _; rw [len_ascN]; exact z2, by show (ascN P.us).length ≤ _; rw [len_ascN]; exact z3, by show (ascN P.ou).length ≤ _; rw [len_ascN]; exact z4, ?_⟩
    show (sortT (nubT P.rs)).length ≤ _
    rw [sortT_len]
    exact Nat.le_trans (nubT_len _) z5
end DL
namespace DL
open PySem PySem.Spec PyProof.Rows L2
theorem atI_of {α : Type} {xs : List α} {d : Int} {x : α} (h0 : 0 ≤ d) (h : xs[d.toNat]? = some x) : atI xs d = some x := by
  have lt := (List.getElem?_eq_some_iff.mp h).1
  unfold atI ixN
  rw [if_pos h0, if_pos (by omega)]
  exact h
theorem rng_get {lo : Int} {n i : Nat} {x : D} (h : (rangeD lo n)[i]? = some x) : i < n ∧ x = .int (lo + (i : Int)) := by
  unfold rangeD at h
  rw [List.getElem?_map] at h
  cases e : (List.range n)[i]? with
  | none => rw [e] at h; cases h
  | some j =>
    rw [e] at h
    obtain ⟨h1, h2⟩ := List.getElem?_eq_some_iff.mp e
    rw [List.getElem_range] at h2
    subst h2
    cases h
    exact ⟨by simpa using h1, rfl⟩
theorem lt_sz {n : Nat} (h : n ≤ 1000000) : n < sizeLine := Nat.lt_of_le_of_lt h (by rw [sizeLine_eq]; decide)
theorem le_sz {n : Nat} (h : n ≤ 1000000) : n ≤ sizeLine := Nat.le_of_lt (lt_sz h)
theorem sub_key {α : Type} {f : α → D} {t : Tab α} {s : Str} {a : α} (h : lk t s = some a) : valD (mK f t) (.inr s) = some (f a) := by rw [valD_mK, h]; rfl
theorem ifne {b : Bool} {A B : Prop} (h1 : b = false → A) (h2 : b = true → B) : if (true ^^ b) = true then A else B := by
  cases b with
  | true => exact h2 rfl
  | false => exact h1 rfl
def stK (xs : List Str) : List (Key × D) := xs.map fun s => (Sum.inr s, .bl true)
theorem merge_new {kvs : List (Key × D)} (nd : (kvs.map (·.1)).Nodup) : mergeD [] kvs = kvs := by
  have key : ∀ (more acc : List (Key × D)), ((acc ++ more).map (·.1)).Nodup → more.foldl (fun acc kv => putD acc kv.1 kv.2) acc = acc ++ more := by
    intro more
    induction more with
    | nil => intro acc _; simp
    | cons kv r ih =>
      intro acc h
      rw [List.foldl_cons, putD_new]
      · rw [ih]
        · simp
        · simpa using h
      · intro x hx e
        rw [List.map_append, List.nodup_append] at h
        exact h.2.2 x.1 (List.mem_map.mpr ⟨x, hx, rfl⟩) kv.1 (by simp) e
  exact key kvs [] nd
theorem disp_new {kvs : List (Key × D)} {w : W} {Q : DK} (nd : (kvs.map (·.1)).Nodup) (q : Q (.dic kvs) w) : finD (mergeD [] kvs) w Q := by
  unfold finD
  rw [merge_new nd]
  exact q
section
variable {gd : DTG} {tt : DTT} {te : DTE} {vs : List Nat} {env : En} {w : W} {Q : DK} {fin : List D → W → DK → Prop}
end
theorem mk_st {w1 : W} {x : Addr} {o o' : MO} {env : En} (hx : w1.m x = none) : ((((w1.put x o).inn env).put x o').del x).as w1 = w1 := by
  cases w1 with
  | mk m n e =>
    show W.mk (delM (updM (updM m x o) x o') x) n e = W.mk m n e
    rw [updM_upd, delM_upd hx]
end DL
namespace DL
open PySem PySem.Spec PyProof.Rows L2
section
variable {α : Type} [DecidableEq α]
theorem sub_perm {β : Type} [DecidableEq β] : ∀ {t t' : List β}, t.Nodup → (∀ e ∈ t, e ∈ t') → t.length = t'.length → t.Perm t'
  | [], t', _, _, h => by
    have : t' = [] := List.length_eq_zero_iff.mp h.symm
    rw [this]
  | e :: r, t', nd, hs, h => by
    have nd' := List.nodup_cons.mp nd
    have he : e ∈ t' := hs e (List.mem_cons_self ..)
    have p := List.perm_cons_erase he
    have ih : r.Perm (t'.erase e) := sub_perm nd'.2 (fun x hx => by
      have ne : x ≠ e := fun z => nd'.1 (z ▸ hx)
      exact (List.mem_erase_of_ne ne).mpr (hs x (List.mem_cons_of_mem _ hx))) (by
      have := p.length_eq
      simp at this h
      omega)
    exact (ih.cons e).trans p.symm
theorem nodup_of_keys {t : Tab α} (nd : (keysN t).Nodup) : t.Nodup := by
  unfold keysN at nd
  exact List.Pairwise.imp (fun h e => h (by rw [e])) (List.pairwise_map.mp nd)
theorem tab_of {t : Tab α} (nd : (keysN t).Nodup) (d : α) : t = (keysN t).map fun s => (s, (lk t s).getD d) := by
  unfold keysN
  rw [List.map_map]
  conv => lhs; rw [← List.map_id t]
  refine List.map_congr_left fun e he => ?_
  simp only [Function.comp, id]
  rw [lk_of_mem nd (a := e.2) he]
  rfl
theorem tab_ext {t t' : Tab α} (nd : (keysN t).Nodup) (hk : keysN t = keysN t') (hl : ∀ s ∈ keysN t, lk t s = lk t' s) : t = t' := by
  cases t with
  | nil =>
    cases t' with
    | nil => rfl
    | cons e r => cases hk
  | cons e0 r0 =>
    have nd' : (keysN t').Nodup := hk ▸ nd
    rw [tab_of nd e0.2, tab_of nd' e0.2, ← hk]
    refine List.map_congr_left fun s hs => ?_
    rw [hl s hs]
theorem tab_same {t t' : Tab α} (nd : (keysN t).Nodup) (nd' : (keysN t').Nodup) (st : Srt t) (st' : Srt t') (h : ∀ e ∈ t, e ∈ t') (hl : t.length = t'.length) : t = t' := by
  have p := sub_perm (nodup_of_keys nd) h hl
  have pk := perm_keys p
  refine tab_ext nd ?_ fun s _ => (lk_perm nd p s).symm
  rw [← sortT_srt st, ← sortT_srt st']
  exact sortT_eq pk
theorem EqWK_tab {f : α → D} {ok : α → Prop} (hf : ∀ a b : α, ok a → ok b → EqW 1 (f a) (f b) (decide (a = b))) (t' : Tab α) (o' : ∀ e ∈ t', ok e.2) : ∀ t : Tab α, (∀ e ∈ t, ok e.2) → EqWK 1 (mK f t') (mK f t) (t.all fun e => decide (lk t' e.1 = some e.2))
  | [], _ => .nil
  | e :: r, o => by
    have ih := EqWK_tab hf t' o' r fun x hx => o x (List.mem_cons_of_mem _ hx)
    rw [List.all_cons]
    have hv := valD_mK f t' e.1
    show EqWK 1 (mK f t') ((Sum.inr e.1, f e.2) :: mK f r) _
    cases h : lk t' e.1 with
    | none =>
      rw [h] at hv
      rw [decide_eq_false (fun z => nomatch z), Bool.false_and]
      exact .miss hv
    | some a =>
      rw [h] at hv
      have e2 : decide (some a = some e.2) = decide (e.2 = a) := by
        by_cases z : e.2 = a
        · rw [z]; simp
        · rw [decide_eq_false z, decide_eq_false (fun y => z (Option.some.inj y).symm)]
      rw [e2]
      exact .hit hv (hf e.2 a (o e (List.mem_cons_self ..)) (o' _ (lk_mem h))) ih
theorem mK_inj {f : α → D} (hi : ∀ a b, f a = f b → a = b) : ∀ {t t' : Tab α}, mK f t = mK f t' → t = t'
  | [], [], _ => rfl
  | [], _ :: _, h => by cases h
  | _ :: _, [], h => by cases h
  | (k, a) :: r, (k', a') :: r', h => by
    obtain ⟨h1, h2⟩ := List.cons.inj (show (Sum.inr k, f a) :: mK f r = (Sum.inr k', f a') :: mK f r' from h)
    have e1 := Sum.inr.inj (congrArg Prod.fst h1)
    have e2 := hi _ _ (congrArg Prod.snd h1)
    rw [mK_inj hi h2]
    rw [show k = k' from e1, show a = a' from e2]
theorem toPyK_mK {f : α → D} (hp : ∀ a, (toPy (f a)).isSome = true) : ∀ t : Tab α, (toPyK (mK f t)).isSome = true
  | [] => rfl
  | e :: r => by
    obtain ⟨p, hp'⟩ := Option.isSome_iff_exists.mp (hp e.2)
    obtain ⟨q, hq⟩ := Option.isSome_iff_exists.mp (toPyK_mK hp r)
    show (toPyK ((Sum.inr e.1, f e.2) :: mK f r)).isSome = true
    unfold toPyK
    rw [hp', hq]
    rfl
theorem tab_eqW {f : α → D} {ok : α → Prop} (hf : ∀ a b : α, ok a → ok b → EqW 1 (f a) (f b) (decide (a = b))) (hi : ∀ a b, f a = f b → a = b) (hp : ∀ a, (toPy (f a)).isSome = true) {t t' : Tab α} (nd : (keysN t).Nodup) (nd' : (keysN t').Nodup) (st : Srt t) (st' : Srt t') (o : ∀ e ∈ t, ok e.2) (o' : ∀ e ∈ t', ok e.2) :
    EqW 2 (.dic (mK f t)) (.dic (mK f t')) (decide (t = t')) := by
  have refl_ : (t.all fun e => decide (lk t e.1 = some e.2)) = true := List.all_eq_true.mpr fun e he => decide_eq_true (lk_of_mem nd he)
  have e : decide (t = t') = ((mK f t).length == (mK f t').length && t.all fun e => decide (lk t' e.1 = some e.2)) := by
    rw [Bool.eq_iff_iff, decide_eq_true_eq, Bool.and_eq_true, len_mK, len_mK]
    constructor
    · intro h
      rw [← h]
      exact ⟨by simp, refl_⟩
    · rintro ⟨h1, h2⟩
      exact tab_same nd nd' st st' (fun e he => lk_mem (of_decide_eq_true (List.all_eq_true.mp h2 e he))) (by simpa using h1)
  rw [e]
  have dk : ∀ t : Tab α, (toPy (.dic (mK f t))).isSome = true := fun t => by
    obtain ⟨q, hq⟩ := Option.isSome_iff_exists.mp (toPyK_mK hp t)
    simp [toPy, hq]
  refine .dic (fun _ => EqWK_tab hf t' o' t o) (fun h => ?_) (dk _) (dk _)
  rw [← mK_inj hi h]
  exact refl_
end
theorem word_ok {s : Str} (h : wordS s = true) : PyData.strOk s = true := by
  unfold wordS at h
  simp only [Bool.and_eq_true] at h
  have h2 := h.2
  unfold PyData.strOk
  rw [← Array.all_toList]
  refine List.all_eq_true.mpr fun c hc => ?_
  have q := of_decide_eq_true (List.all_eq_true.mp h2 c hc)
  exact (show ∀ c ∈ alnum.cps.toList, decide (c < 0x110000) = true by decide +kernel) c q
theorem sh_str {a : Str} (h : PyData.strOk a = true) : SeqAt.shaped (.str a) = true := by
  unfold SeqAt.shaped
  rw [Bool.and_eq_true]
  exact ⟨h, rfl⟩
theorem sh_strs {xs : List Str} (h : ∀ s ∈ xs, PyData.strOk s = true) : SeqAt.shaped (.tuple (xs.map .str)) = true ∧ SeqAt.shaped (.list (xs.map .str)) = true := by
  have h1 : PyData.canLayAll0 (xs.map .str) = true := by
    induction xs with
    | nil => rfl
    | cons x r ih =>
      rw [List.map_cons]
      unfold PyData.canLayAll0
      rw [ih fun s hs => h s (List.mem_cons_of_mem _ hs), Bool.and_true]
      exact h x (List.mem_cons_self ..)
  have h2 : PyData.depthAll (xs.map .str) ≤ 1 := by
    clear h h1
    induction xs with
    | nil => exact Nat.zero_le _
    | cons x r ih =>
      rw [List.map_cons]
      unfold PyData.depthAll
      exact Nat.max_le.mpr ⟨Nat.le_of_ble_eq_true rfl, ih⟩
  unfold SeqAt.shaped
  rw [Bool.and_eq_true, Bool.and_eq_true]
  exact ⟨⟨h1, decide_eq_true (by show PyData.depthAll _ + 1 ≤ 64; omega)⟩, ⟨h1, decide_eq_true (by show PyData.depthAll _ + 1 ≤ 64; omega)⟩⟩
theorem toPyL_strs (xs : List Str) : toPyL (xs.map .str) = some (xs.map .str) := by
  induction xs with
  | nil => rfl
  | cons x r ih => rw [List.map_cons, List.map_cons]; simp [toPyL, toPy, ih]
theorem toPy_tup (xs : List Str) : toPy (.tup (xs.map .str)) = some (.tuple (xs.map .str)) := by simp [toPy, toPyL_strs]
theorem toPy_lst (xs : List Str) : toPy (.lst (xs.map .str)) = some (.list (xs.map .str)) := by simp [toPy, toPyL_strs]
theorem eqv_strs : ∀ xs ys : List Str, PyData.eqvAll (xs.map .str) (ys.map .str) = decide (xs = ys)
  | [], [] => rfl
  | [], _ :: _ => rfl
  | _ :: _, [] => rfl
  | x :: r, y :: t => by
    rw [List.map_cons, List.map_cons]
    simp only [PyData.eqvAll, PyData.eqv, eqv_strs r t]
    by_cases h : x = y
    · subst h
      simp
    · simp [h]
theorem eqv_tup (xs ys : List Str) : PyData.eqv (.tuple (xs.map .str)) (.tuple (ys.map .str)) = decide (xs = ys) := by
  simp only [PyData.eqv, eqv_strs]
theorem eqv_lst (xs ys : List Str) : PyData.eqv (.list (xs.map .str)) (.list (ys.map .str)) = decide (xs = ys) := by
  simp only [PyData.eqv, eqv_strs]
theorem eqW_strs {n : Nat} {xs ys : List Str} (h1 : ∀ s ∈ xs, PyData.strOk s = true) (h2 : ∀ s ∈ ys, PyData.strOk s = true) : EqW n (.tup (xs.map .str)) (.tup (ys.map .str)) (decide (xs = ys)) := by
  rw [← eqv_tup]
  exact .dat (toPy_tup _) (toPy_tup _) (sh_strs h1).1 (sh_strs h2).1
theorem eqW_pD {n : Nat} {a b : Str × Str} (h1 : PyData.strOk a.1 = true ∧ PyData.strOk a.2 = true) (h2 : PyData.strOk b.1 = true ∧ PyData.strOk b.2 = true) : EqW n (pD a) (pD b) (decide (a = b)) := by
  have e : decide (a = b) = decide ([a.1, a.2] = [b.1, b.2]) := by
    obtain ⟨a1, a2⟩ := a
    obtain ⟨b1, b2⟩ := b
    simp
  rw [e]
  refine eqW_strs (xs := [a.1, a.2]) (ys := [b.1, b.2]) (fun s hs => ?_) fun s hs => ?_
  · simp only [List.mem_cons, List.not_mem_nil, or_false] at hs
    rcases hs with rfl | rfl
    · exact h1.1
    · exact h1.2
  · simp only [List.mem_cons, List.not_mem_nil, or_false] at hs
    rcases hs with rfl | rfl
    · exact h2.1
    · exact h2.2
theorem eqW_oD {n : Nat} {a b : Option Str} (h1 : ∀ s, a = some s → PyData.strOk s = true) (h2 : ∀ s, b = some s → PyData.strOk s = true) : EqW n (oD a) (oD b) (decide (a = b)) := by
  have key : ∀ d e : PyData, toPy (oD a) = some d → toPy (oD b) = some e → SeqAt.shaped d = true → SeqAt.shaped e = true → PyData.eqv d e = decide (a = b) → EqW n (oD a) (oD b) (decide (a = b)) := fun d e e1 e2 e3 e4 e5 => by
    rw [← e5]; exact .dat e1 e2 e3 e4
  cases a with
  | none => cases b with
    | none => exact key .none .none rfl rfl rfl rfl rfl
    | some y => exact key .none (.str y) rfl rfl rfl (sh_str (h2 y rfl)) rfl
  | some x => cases b with
    | none => exact key (.str x) .none rfl rfl (sh_str (h1 x rfl)) rfl rfl
    | some y => exact key (.str x) (.str y) rfl rfl (sh_str (h1 x rfl)) (sh_str (h2 y rfl)) (by
        simp only [PyData.eqv, Option.some.injEq]
        by_cases h : x = y
        · subst h; simp
        · simp [h])
structure Ord (P : Parts) : Prop where
  sc : Srt P.sc
  bn : Srt P.bn
  us : Srt P.us
  ou : Srt P.ou
  rn : P.rs.Nodup
  rs : P.rs.Pairwise fun a b => leT a b = true
theorem ord_sort (P : Parts) : Ord (sortP P) := ⟨srt_ascN _, srt_ascN _, srt_ascN _, srt_ascN _, (sortT_perm _).nodup_iff.mpr (nubT_nodup _), sortT_ord _⟩
def partsD (P : Parts) : D := .tup [.dic (scK P.sc), .dic (tbK P.bn), .dic (tbK P.us), .dic (tbK P.ou), .tup (P.rs.map .str)]
theorem pD_some (p : Str × Str) : (toPy (pD p)).isSome = true := rfl
theorem pD_inj {a b : Str × Str} (h : pD a = pD b) : a = b := by
  obtain ⟨a1, a2⟩ := a
  obtain ⟨b1, b2⟩ := b
  have h : D.tup [.str a1, .str a2] = D.tup [.str b1, .str b2] := h
  simp at h
  rw [h.1, h.2]
theorem oD_some (p : Option Str) : (toPy (oD p)).isSome = true := by cases p <;> rfl
theorem oD_inj {a b : Option Str} (h : oD a = oD b) : a = b := by
  cases a <;> cases b <;> simp [oD] at h ⊢ <;> exact h
theorem strs_inj {xs ys : List Str} (h : xs.map D.str = ys.map D.str) : xs = ys := by
  induction xs generalizing ys with
  | nil => cases ys with
    | nil => rfl
    | cons y t => cases h
  | cons x r ih => cases ys with
    | nil => cases h
    | cons y t =>
      obtain ⟨h1, h2⟩ := List.cons.inj h
      rw [ih h2, D.str.inj h1]
theorem dic_some {α : Type} [DecidableEq α] {f : α → D} (hp : ∀ a, (toPy (f a)).isSome = true) (t : Tab α) : ∃ p, toPy (.dic (mK f t)) = some p := by
  obtain ⟨q, hq⟩ := Option.isSome_iff_exists.mp (toPyK_mK hp t)
  exact ⟨.dict q, by simp [toPy, hq]⟩
theorem parts_some (P : Parts) : (toPy (partsD P)).isSome = true := by
  obtain ⟨p1, h1⟩ := dic_some oD_some P.sc
  obtain ⟨p2, h2⟩ := dic_some pD_some P.bn
  obtain ⟨p3, h3⟩ := dic_some pD_some P.us
  obtain ⟨p4, h4⟩ := dic_some pD_some P.ou
  have h5 := toPy_tup P.rs
  have e : toPyL [.dic (scK P.sc), .dic (tbK P.bn), .dic (tbK P.us), .dic (tbK P.ou), .tup (P.rs.map .str)] = some [p1, p2, p3, p4, .tuple (P.rs.map .str)] := by
    simp only [toPyL, h1, h2, h3, h4, h5]
    rfl
  unfold partsD
  rw [toPy, e]
  rfl
theorem parts_eqW {P P' : Parts} (o : WF P) (o' : WF P') (s : Ord P) (s' : Ord P') : EqW 3 (partsD P) (partsD P') (decide (P = P')) := by
  have e : decide (P = P') = (decide (P.sc = P'.sc) && (decide (P.bn = P'.bn) && (decide (P.us = P'.us) && (decide (P.ou = P'.ou) && (decide (P.rs = P'.rs) && true))))) := by
    obtain ⟨a1, a2, a3, a4, a5⟩ := P
    obtain ⟨b1, b2, b3, b4, b5⟩ := P'
    simp
  have tb : ∀ {t : Tb}, (∀ e ∈ t, wordS e.2.1 = true ∧ wordS e.2.2 = true) → ∀ e ∈ t, PyData.strOk e.2.1 = true ∧ PyData.strOk e.2.2 = true := fun h e he => ⟨word_ok (h e he).1, word_ok (h e he).2⟩
  have uw : ∀ {P : Parts}, WF P → ∀ e ∈ P.us, wordS e.2.1 = true ∧ wordS e.2.2 = true := fun o e he => by
    obtain ⟨_, h1, b, h2, _⟩ := o.uwd e he
    exact ⟨o.sc.wd _ h1, keys_word o (lk_key h2)⟩
  have bw : ∀ {P : Parts}, WF P → ∀ e ∈ P.bn, wordS e.2.1 = true ∧ wordS e.2.2 = true := fun o e he => ⟨o.sc.wd _ (o.bwd e he).2.2, (o.bwd e he).2.1⟩
  have ow : ∀ {P : Parts}, WF P → ∀ e ∈ P.ou, wordS e.2.1 = true ∧ wordS e.2.2 = true := fun o e he => ⟨o.sc.wd _ (o.owd e he).2.2, (o.owd e he).2.1⟩
  have sw : ∀ {P : Parts}, WF P → ∀ e ∈ P.sc, ∀ y, e.2 = some y → PyData.strOk y = true := fun o e he y hy => word_ok (o.sc.wd y (o.sc.cl e.1 y (lk_of_mem o.sc.nd (by rw [← hy]; exact he))))
  rw [e]
  refine .tup (.cons (tab_eqW (ok := fun a => ∀ y, a = some y → PyData.strOk y = true) (fun a b => eqW_oD) (fun a b => oD_inj) oD_some o.sc.nd o'.sc.nd s.sc s'.sc (sw o) (sw o')) (.cons (tab_eqW (ok := fun a : Str × Str => PyData.strOk a.1 = true ∧ PyData.strOk a.2 = true) (fun a b => eqW_pD) (fun a b => pD_inj) pD_some o.bnd o'.bnd s.bn s'.bn (tb (bw o)) (tb (bw o')))
    (.cons (tab_eqW (ok := fun a : Str × Str => PyData.strOk a.1 = true ∧ PyData.strOk a.2 = true) (fun a b => eqW_pD) (fun a b => pD_inj) pD_some o.usd o'.usd s.us s'.us (tb (uw o)) (tb (uw o'))) (.cons (tab_eqW (ok := fun a : Str × Str => PyData.strOk a.1 = true ∧ PyData.strOk a.2 = true) (fun a b => eqW_pD) (fun a b => pD_inj) pD_some o.oud o'.oud s.ou s'.ou (tb (ow o)) (tb (ow o')))
      (.cons (eqW_strs (fun s hs => word_ok (o.rwd s hs)) fun s hs => word_ok (o'.rwd s hs)) .nil))))) (fun h => ?_) (parts_some P) (parts_some P')
  simp only [List.cons.injEq, D.dic.injEq, D.tup.injEq, and_true] at h
  obtain ⟨h1, h2, h3, h4, h5⟩ := h
  rw [mK_inj (fun a b => oD_inj) h1, mK_inj (fun a b => pD_inj) h2, mK_inj (fun a b => pD_inj) h3, mK_inj (fun a b => pD_inj) h4, strs_inj h5]
  simp
theorem eq_strsL {neg : Bool} {xs ys : List Str} {w : W} {Q : DK} (h1 : ∀ s ∈ xs, PyData.strOk s = true) (h2 : ∀ s ∈ ys, PyData.strOk s = true) (q : Q (.bl (neg ^^ decide (xs = ys))) w) : eqR neg (.lst (xs.map .str)) (.lst (ys.map .str)) w Q := by
  rw [← eqv_lst] at q
  exact ⟨_, _, toPy_lst xs, toPy_lst ys, (sh_strs h1).2, (sh_strs h2).2, q⟩
structure Lay (k n : Nat) (p : PyData) : Prop where
  lay : p.canLay0 = true
  dp : p.depth ≤ k
  wt : p.weight ≤ n
  is : p.intsShort 13 = true
  sh : p.showable = true
theorem Lay.show {k n : Nat} {p : PyData} (h : Lay k n p) (hk : k ≤ 60) (hn : n ≤ 2 ^ 20) : ShowOk p := by
  have l : p.layable0 = true := by
    unfold PyData.layable0
    rw [h.lay, Bool.true_and, Bool.and_eq_true]
    exact ⟨decide_eq_true (by have := h.dp; omega), decide_eq_true (by have := h.wt; omega)⟩
  exact ⟨h.sh, by have := h.dp; omega, PyData.shown_fits_of_layable0 (B := 13) (by decide) (by decide) l h.is, fun z => by rw [PyData.hasDict_of_canLay p h.lay] at z; cases z⟩
theorem Lay.shaped {k n : Nat} {p : PyData} (h : Lay k n p) (hk : k ≤ 64) : SeqAt.shaped p = true := by
  unfold SeqAt.shaped
  rw [h.lay, Bool.true_and]
  exact decide_eq_true (by have := h.dp; omega)
theorem Lay.mono {k n k' n' : Nat} {p : PyData} (h : Lay k n p) (hk : k ≤ k') (hn : n ≤ n') : Lay k' n' p := ⟨h.lay, Nat.le_trans h.dp hk, Nat.le_trans h.wt hn, h.is, h.sh⟩
theorem Lay.str {s : Str} (h : PyData.strOk s = true) : Lay 0 s.length (.str s) := ⟨h, Nat.le_refl _, Nat.le_refl _, rfl, rfl⟩
theorem Lay.word {s : Str} (h : wordS s = true) : Lay 0 8 (.str s) := (Lay.str (word_ok h)).mono (Nat.le_refl _) (word_len h)
theorem Lay.non : Lay 0 0 .none := ⟨rfl, Nat.le_refl _, Nat.le_refl _, rfl, rfl⟩
theorem Lay.bl {b : Bool} : Lay 0 0 (.bool b) := ⟨rfl, Nat.le_refl _, Nat.le_refl _, rfl, rfl⟩
structure LayAll (k n : Nat) (ps : List PyData) : Prop where
  lay : PyData.canLayAll0 ps = true
  dp : PyData.depthAll ps ≤ k
  wt : PyData.weightAll ps ≤ ps.length * (n + 1)
  is : PyData.intsShortAll 13 ps = true
  sh : PyData.showableAll ps = true
theorem LayAll.of {k n : Nat} : ∀ {ps : List PyData}, (∀ p ∈ ps, Lay k n p) → LayAll k n ps
  | [], _ => ⟨rfl, Nat.zero_le _, Nat.zero_le _, rfl, rfl⟩
  | p :: r, h => by
    have h1 := h p (List.mem_cons_self ..)
    have ih := LayAll.of fun q hq => h q (List.mem_cons_of_mem _ hq)
    refine ⟨?_, Nat.max_le.mpr ⟨h1.dp, ih.dp⟩, ?_, ?_, ?_⟩
    · unfold PyData.canLayAll0; rw [h1.lay, ih.lay]; rfl
    · unfold PyData.weightAll
      have := h1.wt
      have := ih.wt
      rw [List.length_cons, Nat.succ_mul]
      omega
    · unfold PyData.intsShortAll; rw [h1.is, ih.is]; rfl
    · unfold PyData.showableAll; rw [h1.sh, ih.sh]; rfl
theorem Lay.tup {k n : Nat} {ps : List PyData} (h : ∀ p ∈ ps, Lay k n p) : Lay (k + 1) (ps.length * (n + 1)) (.tuple ps) :=
  have a := LayAll.of h
  ⟨a.lay, Nat.succ_le_succ a.dp, a.wt, a.is, a.sh⟩
theorem Lay.lst {k n : Nat} {ps : List PyData} (h : ∀ p ∈ ps, Lay k n p) : Lay (k + 1) (ps.length * (n + 1)) (.list ps) :=
  have a := LayAll.of h
  ⟨a.lay, Nat.succ_le_succ a.dp, a.wt, a.is, a.sh⟩
end DL
namespace DL
open PySem PySem.Spec PyProof.Rows L2
inductive OrdSc : Sc → Prop
  | root (r : Str) : OrdSc [(r, none)]
  | snoc {sc : Sc} {s p : Str} : OrdSc sc → s ∉ keysN sc → p ∈ keysN sc → OrdSc (sc ++ [(s, some p)])
theorem wayN_old {sc : Sc} {s p : Str} (cl : ∀ t q, lk sc t = some (some q) → q ∈ keysN sc) : ∀ (n : Nat) (t : Str), t ∈ keysN sc → wayN (sc ++ [(s, some p)]) n t = wayN sc n t
  | 0, _, _ => rfl
  | n + 1, t, ht => by
    obtain ⟨a, ha⟩ := lk_some ht
    have e : lk (sc ++ [(s, some p)]) t = some a := by rw [lk_append, ha]; rfl
    unfold wayN
    rw [e, ha]
    cases a with
    | none => rfl
    | some q =>
      show t :: wayN (sc ++ [(s, some p)]) n q = t :: wayN sc n q
      rw [wayN_old cl n q (cl t q ha)]
structure OrdCore (sc : Sc) : Prop where
  nd : (keysN sc).Nodup
  ln : 1 ≤ sc.length
  cl : ∀ s p, lk sc s = some (some p) → p ∈ keysN sc
  rt : ∃ r, lk sc r = some none ∧ ∀ s ∈ keysN sc, ∃ pre, wayN sc (sc.length - 1) s = pre ++ [r]
theorem OrdSc.core {sc : Sc} (h : OrdSc sc) : OrdCore sc := by
  induction h with
  | root r =>
    refine ⟨by simp [keysN], Nat.le_refl _, fun s p h => ?_, r, by rw [lk_cons]; simp, fun s hs => ?_⟩
    · rw [lk_cons] at h
      split at h
      · cases h
      · cases h
    · simp [keysN] at hs
      subst hs
      exact ⟨[], rfl⟩
  | @snoc sc s p _ hs hp ih =>
    obtain ⟨r, hr, hw⟩ := ih.rt
    have l1 : (sc ++ [(s, some p)]).length - 1 = sc.length := by simp
    have old : ∀ t ∈ keysN sc, ∃ pre, wayN (sc ++ [(s, some p)]) sc.length t = pre ++ [r] := fun t ht => by
      obtain ⟨pre, e⟩ := hw t ht
      exact ⟨pre, by rw [wayN_old ih.cl _ _ ht]; exact wayN_more hr e _ (by omega)⟩
    have new : lk (sc ++ [(s, some p)]) s = some (some p) := by
      rw [lk_append, lk_none hs, lk_cons, if_pos rfl]; rfl
    refine ⟨?_, by simp, fun t q h => ?_, r, by rw [lk_append, hr]; rfl, fun t ht => ?_⟩
    · rw [keysN_append, List.nodup_append]
      refine ⟨ih.nd, by simp [keysN], fun x hx y hy => ?_⟩
      simp [keysN] at hy
      subst hy
      exact fun z => hs (z ▸ hx)
    · rw [keysN_append]
      refine List.mem_append_left _ ?_
      rw [lk_append] at h
      cases e : lk sc t with
      | none =>
        rw [e, lk_cons] at h
        split at h
        · cases h; exact hp
        · cases h
      | some a =>
        rw [e] at h
        cases h
        exact ih.cl t q e
    · rw [l1]
      rw [keysN_append] at ht
      rcases List.mem_append.mp ht with ht | ht
      · exact old t ht
      · simp [keysN] at ht
        subst ht
        have := ih.ln
        obtain ⟨m, e⟩ : ∃ m, sc.length = m + 1 := ⟨sc.length - 1, by omega⟩
        obtain ⟨pre, hpre⟩ := hw p hp
        rw [e]
        refine ⟨t :: pre, ?_⟩
        show t :: (match lk (sc ++ [(t, some p)]) t with | some (some y) => wayN (sc ++ [(t, some p)]) m y | _ => []) = _
        rw [new]
        show t :: wayN (sc ++ [(t, some p)]) m p = _
        rw [wayN_old ih.cl _ _ hp]
        rw [e] at hpre
        rw [show m + 1 - 1 = m from rfl] at hpre
        rw [hpre]
        rfl
theorem OrdSc.ok {sc : Sc} (h : OrdSc sc) (hw : ∀ s ∈ keysN sc, wordS s = true) : ScOk sc := by
  have c := h.core
  obtain ⟨r, hr, hk⟩ := c.rt
  refine ⟨c.nd, hw, c.cl, r, hr, fun s hs => ?_⟩
  obtain ⟨pre, e⟩ := hk s hs
  exact ⟨pre, wayN_more hr e _ (by omega)⟩
def poolN : List Str := ["top", "f", "g", "h", "a", "zz", "s1", "in"]
def bindN : List Str := ["b1", "b2", "b3", "b4", "a", "f", "top", "z"]
def useN : List Str := ["u1", "u2", "u3", "x", "a", "u6", "u7"]
def outW : List Str := ["x", "abcdefg1", "abcdefg2", "w", "a", "b"]
def outN : List Str := ["o1", "o2", "b1", "top", "w"]
theorem poolN_wd : ∀ s ∈ poolN, wordS s = true := by decide +kernel
theorem bindN_wd : ∀ s ∈ bindN, wordS s = true := by decide +kernel
theorem useN_wd : ∀ s ∈ useN, wordS s = true := by decide +kernel
theorem outN_wd : ∀ s ∈ outN, wordS s = true := by decide +kernel
structure BnDr (sc : Sc) (bn : Tb) : Prop where
  nd : (keysN bn).Nodup
  ky : ∀ s ∈ keysN bn, s ∈ bindN
  vl : ∀ e ∈ bn, e.2.1 ∈ keysN sc ∧ (e.2.2 = "x" ∨ e.2.2 = "abcdefg1" ∨ e.2.2 = "abcdefg2")
structure UsDr (sc : Sc) (bn us : Tb) : Prop where
  nd : (keysN us).Nodup
  ky : ∀ s ∈ keysN us, s ∈ useN
  vl : ∀ e ∈ us, e.2.1 ∈ keysN sc ∧ ∃ b, lk bn e.2.2 = some b ∧ b.1 ∈ way sc e.2.1
structure OuDr (sc : Sc) (ou : Tb) : Prop where
  nd : (keysN ou).Nodup
  ky : ∀ s ∈ keysN ou, s ∈ outN
  vl : ∀ e ∈ ou, e.2.1 ∈ keysN sc ∧ e.2.2 ∈ outW
def resN : List (List Str) := [[], [], ["if"], ["abcdefg1", "if"], ["a", "abcdefg2", "if", "while"], ["a1", "abcdefg1", "b", "w"]]
structure Drawn (P : Parts) : Prop where
  sc : OrdSc P.sc
  sk : ∀ s ∈ keysN P.sc, s ∈ poolN
  bn : BnDr P.sc P.bn
  us : UsDr P.sc P.bn P.us
  ou : OuDr P.sc P.ou
  rs : P.rs ∈ resN
theorem Drawn.scOk {P : Parts} (d : Drawn P) : ScOk P.sc := d.sc.ok fun s hs => poolN_wd s (d.sk s hs)
theorem Drawn.sizes {P : Parts} (d : Drawn P) : P.sc.length ≤ 8 ∧ P.bn.length ≤ 8 ∧ P.us.length ≤ 7 ∧ P.ou.length ≤ 5 ∧ P.rs.length ≤ 4 := by
  refine ⟨?_, ?_, ?_, ?_, ?_⟩
  · rw [← len_keysN]; exact len_sub d.scOk.nd d.sk
  · rw [← len_keysN]; exact len_sub d.bn.nd d.bn.ky
  · rw [← len_keysN]; exact len_sub d.us.nd d.us.ky
  · rw [← len_keysN]; exact len_sub d.ou.nd d.ou.ky
  · exact (show ∀ r ∈ resN, r.length ≤ 4 by decide) P.rs d.rs
theorem bnDr_wd {sc : Sc} {bn : Tb} (d : BnDr sc bn) : ∀ e ∈ bn, wordS e.1 = true ∧ wordS e.2.2 = true ∧ e.2.1 ∈ keysN sc := fun e he => by
  obtain ⟨h1, h2⟩ := d.vl e he
  refine ⟨bindN_wd _ (d.ky _ (key_of he)), ?_, h1⟩
  rcases h2 with h2 | h2 | h2 <;> rw [h2] <;> decide +kernel
theorem Drawn.wf {P : Parts} (d : Drawn P) : WF P := by
  obtain ⟨z1, z2, z3, z4, z5⟩ := d.sizes
  refine ⟨d.scOk, d.bn.nd, bnDr_wd d.bn, d.us.nd, fun e he => ?_, d.ou.nd, fun e he => ?_, fun s hs hu => ?_, ?_, by omega, by omega, by omega, by omega, by omega⟩
  · obtain ⟨h1, h2⟩ := d.us.vl e he
    exact ⟨useN_wd _ (d.us.ky _ (key_of he)), h1, h2⟩
  · obtain ⟨h1, h2⟩ := d.ou.vl e he
    exact ⟨outN_wd _ (d.ou.ky _ (key_of he)), (show ∀ s ∈ outW, wordS s = true by decide +kernel) _ h2, h1⟩
  · exact (show ∀ s ∈ outN, s ∉ useN by decide +kernel) s (d.ou.ky s hs) (d.us.ky s hu)
  · exact (show ∀ r ∈ resN, ∀ s ∈ r, wordS s = true by decide +kernel) P.rs d.rs
theorem take_new {xs : List Str} {i : Nat} {x : Str} (nd : xs.Nodup) (h : xs[i]? = some x) : x ∉ xs.take i := by
  intro hm
  obtain ⟨j, hj, e⟩ := List.mem_take_iff_getElem.mp hm
  have lt := (List.getElem?_eq_some_iff.mp h).1
  have := (List.getElem?_inj (i := j) (j := i) (by omega) nd).mp (by rw [List.getElem?_eq_getElem (by omega), h, e])
  omega
theorem WF.keyB {P : Parts} (o : WF P) {s : Str} {b : Str × Str} (h : lk P.bn s = some b) : wordS s = true ∧ wordS b.2 = true ∧ b.1 ∈ keysN P.sc := o.bwd _ (lk_mem h)
theorem mem_putN {α : Type} {t : Tab α} {s : Str} {a : α} {e : Str × α} (h : e ∈ putN t s a) : e ∈ t ∨ e = (s, a) := by
  unfold putN at h
  split at h
  · obtain ⟨x, hx, rfl⟩ := List.mem_map.mp h
    by_cases c : x.1 = s
    · rw [if_pos c, c]; exact .inr rfl
    · rw [if_neg c]; exact .inl hx
  · rcases List.mem_append.mp h with h | h
    · exact .inl h
    · exact .inr (List.mem_singleton.mp h)
theorem key_putN {α : Type} {t : Tab α} {s j : Str} {a : α} (h : j ∈ keysN (putN t s a)) : j ∈ keysN t ∨ j = s := by
  rw [keysN_putN] at h
  split at h
  · exact .inl h
  · rcases List.mem_append.mp h with h | h
    · exact .inl h
    · exact .inr (List.mem_singleton.mp h)
end DL
namespace DL
open PySem PySem.Spec PyProof.Rows L2
def upTo (l : List Str) (t : Str) : List Str := l.takeWhile fun s => decide (s ≠ t)
theorem upTo_sub {l : List Str} {t s : Str} (h : s ∈ upTo l t) : s ∈ l := (List.takeWhile_sublist _).subset h
def reachU (sc : Sc) (us : Tb) (b t : Str) : List Str := t :: (us.filter fun e => decide (e.2.2 = b)).flatMap fun e => upTo (way sc e.2.1) t
theorem reachU_mem {sc : Sc} {us : Tb} {b t s : Str} : s ∈ reachU sc us b t ↔ s = t ∨ ∃ e ∈ us, e.2.2 = b ∧ s ∈ upTo (way sc e.2.1) t := by
  unfold reachU
  rw [List.mem_cons, List.mem_flatMap]
  constructor
  · rintro (h | ⟨e, he, h⟩)
    · exact .inl h
    · obtain ⟨h1, h2⟩ := List.mem_filter.mp he
      exact .inr ⟨e, h1, of_decide_eq_true h2, h⟩
  · rintro (h | ⟨e, he, h1, h2⟩)
    · exact .inl h
    · exact .inr ⟨e, List.mem_filter.mpr ⟨he, decide_eq_true h1⟩, h2⟩
def spanN (P : Parts) (b : Str) : List Str := match lk P.bn b with
  | some p => sortT (nubT (reachU P.sc P.us b p.1))
  | none => []
theorem spanN_at {P : Parts} {b : Str} {p : Str × Str} (h : lk P.bn b = some p) : spanN P b = sortT (nubT (reachU P.sc P.us b p.1)) := by
  unfold spanN
  rw [h]
theorem spanN_mem {P : Parts} {b s : Str} {p : Str × Str} (h : lk P.bn b = some p) : s ∈ spanN P b ↔ s = p.1 ∨ ∃ e ∈ P.us, e.2.2 = b ∧ s ∈ upTo (way P.sc e.2.1) p.1 := by
  rw [spanN_at h, mem_sortT, nubT_mem, reachU_mem]
theorem spanN_sub {P : Parts} (o : WF P) {b : Str} : ∀ s ∈ spanN P b, s ∈ keysN P.sc := fun s hs => by
  cases h : lk P.bn b with
  | none => unfold spanN at hs; rw [h] at hs; cases hs
  | some p =>
    rcases (spanN_mem h).mp hs with rfl | ⟨e, he, _, h2⟩
    · exact (o.keyB h).2.2
    · exact o.sc.way_keys _ (o.uwd e he).2.1 s (upTo_sub h2)
theorem spanN_sort {P : Parts} (o : WF P) (b : Str) : spanN (sortP P) b = spanN P b := by
  have e : lk (sortP P).bn b = lk P.bn b := lk_ascN o.bnd b
  cases h : lk P.bn b with
  | none =>
    have h' := e.trans h
    unfold spanN
    rw [h, h']
  | some p =>
    rw [spanN_at h, spanN_at (e.trans h)]
    refine sort_nub fun s => ?_
    rw [reachU_mem, reachU_mem]
    have w : ∀ x, way (sortP P).sc x = way P.sc x := fun x => way_perm o.sc.nd (ascN_perm P.sc).symm x
    constructor
    · rintro (h1 | ⟨e, he, h1, h2⟩)
      · exact .inl h1
      · rw [w] at h2; exact .inr ⟨e, (ascN_perm _).mem_iff.mp he, h1, h2⟩
    · rintro (h1 | ⟨e, he, h1, h2⟩)
      · exact .inl h1
      · exact .inr ⟨e, (ascN_perm _).mem_iff.mpr he, h1, by rw [w]; exact h2⟩
structure Nest (w : W) (tq : Tab Addr) (f : Str → List Str) (w2 : W) : Prop where
  n : w2.n = w.n
  e : w2.e = w.e
  new : ∀ b q, lk tq b = some q → w.m q = none ∧ w2.m q = some (.dic (stK (f b)))
  inj : ∀ b b' q, lk tq b = some q → lk tq b' = some q → b = b'
  old : ∀ a o, w.m a = some o → w2.m a = some o
theorem Nest.nil {w : W} {f : Str → List Str} : Nest w [] f w := ⟨rfl, rfl, fun b q h => (by cases h), fun b b' q h => (by cases h), fun _ _ h => h⟩
theorem Nest.sub {w : W} {tq : Tab Addr} {f : Str → List Str} {w2 : W} (s : Nest w tq f w2) : W.Sub w w2 := ⟨s.n.symm, s.e.symm, s.old⟩
theorem Nest.add {w : W} {tq : Tab Addr} {f : Str → List Str} {w2 w3 : W} {b : Str} {q : Addr} (s : Nest w tq f w2) (hb : b ∉ keysN tq) (hq : w2.m q = none) (h3 : w3.m = updM w2.m q (.dic (stK (f b)))) (hn : w3.n = w2.n) (he : w3.e = w2.e) : Nest w (tq ++ [(b, q)]) f w3 := by
  have hw : w.m q = none := by
    cases h : w.m q with
    | none => rfl
    | some o => rw [s.old q o h] at hq; cases hq
  have ne : ∀ b' q', lk tq b' = some q' → q' ≠ q := fun b' q' h z => by
    have := (s.new b' q' h).2
    rw [z, hq] at this; cases this
  have key : ∀ b' q', lk (tq ++ [(b, q)]) b' = some q' → (lk tq b' = some q') ∨ (b' = b ∧ q' = q) := fun b' q' h => by
    rw [lk_append] at h
    cases h1 : lk tq b' with
    | some x => rw [h1] at h; exact .inl h
    | none =>
      rw [h1, lk_cons] at h
      by_cases e : b = b'
      · rw [if_pos e] at h; cases h; exact .inr ⟨e.symm, rfl⟩
      · rw [if_neg e] at h; cases h
  refine ⟨hn.trans s.n, he.trans s.e, fun b' q' h => ?_, fun b1 b2 q' h1 h2 => ?_, fun a o h => ?_⟩
  · rcases key b' q' h with h | ⟨rfl, rfl⟩
    · exact ⟨(s.new b' q' h).1, by rw [h3, updM_ne (ne b' q' h)]; exact (s.new b' q' h).2⟩
    · exact ⟨hw, by rw [h3, updM_same]⟩
  · rcases key b1 q' h1 with h1' | ⟨e1, e2⟩
    · rcases key b2 q' h2 with h2' | ⟨e3, e4⟩
      · exact s.inj b1 b2 q' h1' h2'
      · exact absurd e4 (ne b1 q' h1')
    · rcases key b2 q' h2 with h2' | ⟨e3, e4⟩
      · exact absurd e2 (ne b2 q' h2')
      · rw [e1, e3]
  · rw [h3, updM_ne (fun z => by rw [z, hw] at h; cases h)]
    exact s.old a o h
def updF (f : Str → List Str) (b : Str) (xs : List Str) : Str → List Str := fun s => if s = b then xs else f s
theorem Nest.set {w : W} {tq : Tab Addr} {f : Str → List Str} {w2 w3 : W} {b : Str} {q : Addr} {xs : List Str} (s : Nest w tq f w2) (h : lk tq b = some q) (h3 : w3.m = updM w2.m q (.dic (stK xs))) (hn : w3.n = w2.n) (he : w3.e = w2.e) : Nest w tq (updF f b xs) w3 := by
  refine ⟨hn.trans s.n, he.trans s.e, fun b' q' h' => ⟨(s.new b' q' h').1, ?_⟩, s.inj, fun a o ha => ?_⟩
  · rw [h3]
    unfold updF
    by_cases e : b' = b
    · subst e
      rw [h] at h'
      cases h'
      rw [updM_same, if_pos rfl]
    · rw [if_neg e]
      have ne : q' ≠ q := fun z => e (s.inj b' b q (z ▸ h') h)
      rw [updM_ne ne]
      exact (s.new b' q' h').2
  · rw [h3, updM_ne (fun z => by rw [z, (s.new b q h).1] at ha; cases ha)]
    exact s.old a o ha
theorem Nest.same {w : W} {tq : Tab Addr} {f g : Str → List Str} {w2 : W} (s : Nest w tq f w2) (h : ∀ b, f b = g b) : Nest w tq g w2 := by
  have : f = g := funext h
  rw [← this]; exact s
theorem Nest.st {w : W} {tq : Tab Addr} {f : Str → List Str} {w2 w3 : W} (s : Nest w tq f w2) (h3 : w3.m = w2.m) (hn : w3.n = w2.n) (he : w3.e = w2.e) : Nest w tq f w3 :=
  ⟨hn.trans s.n, he.trans s.e, fun b q h => ⟨(s.new b q h).1, by rw [h3]; exact (s.new b q h).2⟩, s.inj, fun a o h => by rw [h3]; exact s.old a o h⟩
end DL
namespace DL
open PySem PySem.Spec PyProof.Rows L2
def takenN (P : Parts) (s : Str) : List Str := sortT (nubT (P.rs ++ (P.ou.filter fun e => decide (s ∈ way P.sc e.2.1)).map fun e => e.2.2))
theorem takenN_mem {P : Parts} {s t : Str} : t ∈ takenN P s ↔ t ∈ P.rs ∨ ∃ e ∈ P.ou, e.2.2 = t ∧ s ∈ way P.sc e.2.1 := by
  unfold takenN
  rw [mem_sortT, nubT_mem, List.mem_append, List.mem_map]
  constructor
  · rintro (h | ⟨e, he, rfl⟩)
    · exact .inl h
    · obtain ⟨h1, h2⟩ := List.mem_filter.mp he
      exact .inr ⟨e, h1, rfl, of_decide_eq_true h2⟩
  · rintro (h | ⟨e, he, rfl, h⟩)
    · exact .inl h
    · exact .inr ⟨e, List.mem_filter.mpr ⟨he, decide_eq_true h⟩, rfl⟩
theorem takenN_sort {P : Parts} (o : WF P) (s : Str) : takenN (sortP P) s = takenN P s := by
  unfold takenN
  refine sort_nub fun t => ?_
  have h1 := takenN_mem (P := P) (s := s) (t := t)
  have h2 := takenN_mem (P := sortP P) (s := s) (t := t)
  unfold takenN at h1 h2
  rw [mem_sortT, nubT_mem] at h1 h2
  rw [h1, h2]
  have w : ∀ x, way (sortP P).sc x = way P.sc x := fun x => way_perm o.sc.nd (ascN_perm P.sc).symm x
  show (t ∈ sortT (nubT P.rs) ∨ ∃ e ∈ ascN P.ou, e.2.2 = t ∧ s ∈ way (sortP P).sc e.2.1) ↔ _
  rw [mem_sortT, nubT_mem]
  constructor
  · rintro (h | ⟨e, he, h3, h4⟩)
    · exact .inl h
    · rw [w] at h4; exact .inr ⟨e, (ascN_perm _).mem_iff.mp he, h3, h4⟩
  · rintro (h | ⟨e, he, h3, h4⟩)
    · exact .inl h
    · exact .inr ⟨e, (ascN_perm _).mem_iff.mpr he, h3, by rw [w]; exact h4⟩
end DL
namespace DL
open PySem PySem.Spec PyProof.Rows L2
theorem sort_sort (xs : List Str) : sortT (sortT xs) = sortT xs := sortT_srt (sortT_ord xs)
theorem sort_keys {P : Parts} : sortT (keysN (sortP P).bn) = sortT (keysN P.bn) := by
  show sortT (keysN (ascN P.bn)) = _
  rw [keysN_ascN, sort_sort]
theorem ltT_not {a b : Str} : strLt a b = !leT b a := by
  unfold strLt leT
  by_cases h : a.cps.toList < b.cps.toList
  · rw [decide_eq_true h, decide_eq_false (fun z => (List.not_le.mpr h) z)]
    rfl
  · rw [decide_eq_false h, decide_eq_true (List.not_lt.mp h)]
    rfl
def barB (P : Parts) (b : Str) : Bool := match lk P.bn b with
  | some p => decide (p.2 ∈ takenN P p.1)
  | none => false
def barredN (P : Parts) : List Str := (sortT (keysN P.bn)).filter (barB P)
theorem barB_sort {P : Parts} (o : WF P) (b : Str) : barB (sortP P) b = barB P b := by
  unfold barB
  rw [show lk (sortP P).bn b = lk P.bn b from lk_ascN o.bnd b]
  cases lk P.bn b with
  | none => rfl
  | some p => show decide (p.2 ∈ takenN (sortP P) p.1) = _; rw [takenN_sort o]
theorem barredN_sort {P : Parts} (o : WF P) : barredN (sortP P) = barredN P := by
  unfold barredN
  rw [sort_keys]
  exact List.filter_congr fun b _ => barB_sort o b
def wordAt (P : Parts) (b : Str) : Option Str := (lk P.bn b).map (·.2)
def meetB (P : Parts) (a b : Str) : Bool := (spanN P a).any fun s => decide (s ∈ spanN P b)
def confB (P : Parts) (a b : Str) : Bool := decide (wordAt P a = wordAt P b) && meetB P a b
def rowC (P : Parts) (a : Str) : List (Str × Str) := (((sortT (keysN P.bn)).filter fun b => strLt a b).filter (confB P a)).map fun b => (a, b)
def confN (P : Parts) : List (Str × Str) := (sortT (keysN P.bn)).flatMap (rowC P)
theorem confN_sort {P : Parts} (o : WF P) : confN (sortP P) = confN P := by
  unfold confN rowC
  rw [sort_keys]
  have e : ∀ a b, confB (sortP P) a b = confB P a b := fun a b => by
    unfold confB meetB wordAt
    rw [spanN_sort o, spanN_sort o, show lk (sortP P).bn a = lk P.bn a from lk_ascN o.bnd a, show lk (sortP P).bn b = lk P.bn b from lk_ascN o.bnd b]
  have e2 : ∀ a, confB (sortP P) a = confB P a := fun a => funext (e a)
  congr 1
  funext a
  rw [e2 a]
theorem Drawn.small {P : Parts} (d : Drawn P) : P.us.length * P.sc.length ≤ 4000 ∧ P.bn.length ≤ 60 := by
  obtain ⟨z1, z2, z3, _, _⟩ := d.sizes
  exact ⟨Nat.le_trans (Nat.mul_le_mul z3 z1) (by decide), by omega⟩
end DL
namespace DL
open PySem PySem.Spec PyProof.Rows L2
def hP : List Str → PyData
  | [] => .none
  | x :: _ => .str x
end DL
namespace DL
open PySem PySem.Spec PyProof.Rows L2
end DL
namespace DL
open PySem PySem.Spec PyProof.Rows L2
section
variable {α : Type} {gd : DTG} {tt : DTT} {te : DTE} {vs : List Nat} {env : En} {w : W} {Q : DK} {fin : List D → W → DK → Prop}
end
def obP (o : List Str) : PyData := .tuple (o.map .str)
noncomputable def leO (a b : List Str) : Bool := PySem.W.dataLe false obP a b
def obsAll (P : Parts) (kept : List Str) : List (List Str) :=
  ((barredN P).filter fun b => decide (b ∈ kept)).map (fun b => [b]) ++ ((confN P).filter fun q => decide (q.1 ∈ kept) && decide (q.2 ∈ kept)).map fun q => [q.1, q.2]
noncomputable def obsN (P : Parts) (kept : List Str) : List (List Str) := (obsAll P kept).mergeSort leO
theorem obsAll_sort {P : Parts} (o : WF P) (kept : List Str) : obsAll (sortP P) kept = obsAll P kept := by
  unfold obsAll
  rw [barredN_sort o, confN_sort o]
theorem obsN_sort {P : Parts} (o : WF P) (kept : List Str) : obsN (sortP P) kept = obsN P kept := by
  unfold obsN
  rw [obsAll_sort o]
theorem obsAll_congr {P : Parts} {k k' : List Str} (h : ∀ s, s ∈ k ↔ s ∈ k') : obsAll P k = obsAll P k' := by
  have e : ∀ s, decide (s ∈ k) = decide (s ∈ k') := fun s => decide_eq_decide.mpr (h s)
  unfold obsAll
  simp only [e]
theorem obsN_congr {P : Parts} {k k' : List Str} (h : ∀ s, s ∈ k ↔ s ∈ k') : obsN P k = obsN P k' := by
  unfold obsN
  rw [obsAll_congr h]
theorem obsN_len (P : Parts) (kept : List Str) : (obsN P kept).length = (obsAll P kept).length := List.length_mergeSort _
theorem obsN_nil {P : Parts} {kept : List Str} : obsN P kept = [] ↔ obsAll P kept = [] := by
  rw [← List.length_eq_zero_iff, ← List.length_eq_zero_iff, obsN_len]
def isStr : D → Bool
  | .str _ => true
  | _ => false
theorem W.same {a b : W} (hm : a.m = b.m) (hn : a.n = b.n) (he : a.e = b.e) : a = b := by
  cases a; cases b; cases hm; cases hn; cases he; rfl
theorem bls_map {α : Type} (p : α → Bool) : ∀ xs : List α, blsOf (xs.map fun a => D.bl (p a)) = some (xs.map p)
  | [] => rfl
  | x :: r => by
    rw [List.map_cons, List.map_cons]
    simp [blsOf, bls_map p r]
def meets1 (b : Str) (kept : List Str) (q : Str × Str) : Bool := (decide (b = q.1) && decide (q.2 ∈ kept)) || (decide (b = q.2) && decide (q.1 ∈ kept))
def meetsB (P : Parts) (b : Str) (kept : List Str) : Bool := (confN P).any (meets1 b kept)
theorem strLt_irr (a : Str) : strLt a a = false := by
  rw [ltT_not]
  have := leT_total a a
  simp at this
  rw [this]
  rfl
theorem confN_lt {P : Parts} {q : Str × Str} (h : q ∈ confN P) : q.1 ≠ q.2 := by
  unfold confN at h
  obtain ⟨a, ha, h⟩ := List.mem_flatMap.mp h
  unfold rowC at h
  obtain ⟨b, hb, rfl⟩ := List.mem_map.mp h
  have := (List.mem_filter.mp (List.mem_filter.mp hb).1).2
  intro e
  have e : a = b := e
  rw [e, strLt_irr] at this
  cases this
structure NoObs (P : Parts) (K : List Str) : Prop where
  bar : ∀ b ∈ K, b ∉ barredN P
  con : ∀ q ∈ confN P, ¬ (q.1 ∈ K ∧ q.2 ∈ K)
theorem obsAll_nil {P : Parts} {K : List Str} : obsAll P K = [] ↔ NoObs P K := by
  unfold obsAll
  rw [List.append_eq_nil_iff, List.map_eq_nil_iff, List.map_eq_nil_iff, List.filter_eq_nil_iff, List.filter_eq_nil_iff]
  constructor
  · rintro ⟨h1, h2⟩
    refine ⟨fun b hb hb2 => h1 b hb2 (decide_eq_true hb), fun q hq hk => h2 q hq ?_⟩
    rw [decide_eq_true hk.1, decide_eq_true hk.2]
    rfl
  · rintro ⟨h1, h2⟩
    refine ⟨fun b hb hk => h1 b (of_decide_eq_true hk) hb, fun q hq hk => h2 q hq ?_⟩
    rw [Bool.and_eq_true] at hk
    exact ⟨of_decide_eq_true hk.1, of_decide_eq_true hk.2⟩
theorem NoObs.add {P : Parts} {K : List Str} {b : Str} (h : NoObs P K) : NoObs P (K ++ [b]) ↔ b ∉ barredN P ∧ meetsB P b K = false := by
  constructor
  · rintro ⟨h1, h2⟩
    refine ⟨h1 b (by simp), ?_⟩
    unfold meetsB
    rw [List.any_eq_false]
    intro q hq hm
    unfold meets1 at hm
    rw [Bool.or_eq_true, Bool.and_eq_true, Bool.and_eq_true] at hm
    rcases hm with ⟨e1, e2⟩ | ⟨e1, e2⟩
    · exact h2 q hq ⟨by rw [← of_decide_eq_true e1]; simp, List.mem_append_left _ (of_decide_eq_true e2)⟩
    · exact h2 q hq ⟨List.mem_append_left _ (of_decide_eq_true e2), by rw [← of_decide_eq_true e1]; simp⟩
  · rintro ⟨h1, h2⟩
    unfold meetsB at h2
    rw [List.any_eq_false] at h2
    refine ⟨fun c hc => ?_, fun q hq hk => ?_⟩
    · rcases List.mem_append.mp hc with hc | hc
      · exact h.bar c hc
      · rw [List.mem_singleton.mp hc]; exact h1
    · have no := h2 q hq
      unfold meets1 at no
      rcases List.mem_append.mp hk.1 with k1 | k1 <;> rcases List.mem_append.mp hk.2 with k2 | k2
      · exact h.con q hq ⟨k1, k2⟩
      · have e := List.mem_singleton.mp k2
        exact no (by rw [decide_eq_true e.symm, decide_eq_true k1]; simp)
      · have e := List.mem_singleton.mp k1
        exact no (by rw [decide_eq_true e.symm, decide_eq_true k2]; simp)
      · exact confN_lt hq ((List.mem_singleton.mp k1).trans (List.mem_singleton.mp k2).symm)
theorem NoObs.nil (P : Parts) : NoObs P [] := ⟨fun b hb => (nomatch hb), fun q _ hk => (nomatch hk.1)⟩
theorem obsN_dec {P : Parts} {K : List Str} : obsN P K = [] ↔ NoObs P K := by rw [obsN_nil, obsAll_nil]
theorem NoObs.congr {P : Parts} {k k' : List Str} (h : ∀ s, s ∈ k ↔ s ∈ k') (n : NoObs P k) : NoObs P k' := obsN_dec.mp (obsN_congr h ▸ obsN_dec.mpr n)
theorem NoObs.sort {P : Parts} (o : WF P) {K : List Str} (n : NoObs P K) : NoObs (sortP P) K := obsN_dec.mp (by rw [obsN_sort o]; exact obsN_dec.mpr n)
end DL
namespace DL
open PySem PySem.Spec PyProof.Rows L2
structure Sm (k n : Nat) (p : PyData) : Prop where
  sh : p.showable = true
  dp : p.depth ≤ k
  wt : p.weight ≤ n
  is : p.leavesShort 13 = true
theorem Sm.show {k n : Nat} {p : PyData} (h : Sm k n p) (hk : k ≤ 60) (hn : n ≤ 2 ^ 20) : ShowOk p :=
  ⟨h.sh, Nat.le_trans h.dp hk, PyData.shown_fits (B := 13) (by decide) (by decide) h.is (Nat.le_trans h.wt hn), fun _ => rfl⟩
theorem Lay.sm {k n : Nat} {p : PyData} (h : Lay k n p) : Sm k n p := ⟨h.sh, h.dp, h.wt, PyData.leavesShort_of_canLay0 13 p h.lay h.is⟩
theorem Sm.int {i : Int} (h : i.natAbs < 1024) : Sm 0 10 (.int i) := by
  have hl : i.natAbs.log2 < 10 := by
    by_cases z : i.natAbs = 0
    · rw [z]; decide
    · exact (Nat.log2_lt z).mpr h
  refine ⟨?_, Nat.le_refl _, ?_, ?_⟩
  · unfold PyData.showable
    exact decide_eq_true (by omega)
  · unfold PyData.weight
    split
    · exact Nat.zero_le _
    · omega
  · unfold PyData.leavesShort
    exact decide_eq_true (PyData.shown_int_le (Nat.lt_of_lt_of_le h (by decide)))
structure SmKv (k n : Nat) (ps : List (PyData × PyData)) : Prop where
  sh : PyData.showableKv ps = true
  dp : PyData.depthKv ps ≤ k
  wt : PyData.weightKv ps ≤ ps.length * (n + 2)
  is : PyData.leavesShortKv 13 ps = true
theorem SmKv.of {k n m : Nat} : ∀ {ps : List (PyData × PyData)}, (∀ p ∈ ps, Sm k n p.1 ∧ Sm k m p.2) → SmKv k (n + m) ps
  | [], _ => ⟨rfl, Nat.zero_le _, Nat.zero_le _, rfl⟩
  | (a, b) :: r, h => by
    obtain ⟨h1, h2⟩ := h (a, b) (List.mem_cons_self ..)
    have ih := SmKv.of fun q hq => h q (List.mem_cons_of_mem _ hq)
    refine ⟨?_, Nat.max_le.mpr ⟨Nat.max_le.mpr ⟨h1.dp, h2.dp⟩, ih.dp⟩, ?_, ?_⟩
    · unfold PyData.showableKv; rw [h1.sh, h2.sh, ih.sh]; rfl
    · unfold PyData.weightKv
      have w1 : a.weight ≤ n := h1.wt
      have w2 : b.weight ≤ m := h2.wt
      have w3 := ih.wt
      rw [List.length_cons, Nat.succ_mul]
      omega
    · unfold PyData.leavesShortKv; rw [h1.is, h2.is, ih.is]; rfl
theorem Sm.dic {k n m : Nat} {ps : List (PyData × PyData)} (h : ∀ p ∈ ps, Sm k n p.1 ∧ Sm k m p.2) : Sm (k + 1) (ps.length * (n + m + 2)) (.dict ps) :=
  have a := SmKv.of h
  ⟨a.sh, Nat.succ_le_succ a.dp, a.wt, a.is⟩
section
variable {α : Type} {gd : DTG} {tt : DTT} {te : DTE} {vs : List Nat} {env : En} {w : W} {Q : DK} {fin : List D → W → DK → Prop}
end
end DL
namespace DL
open PySem PySem.Spec PyProof.Rows L2
def chrs (s : Str) : List Str := s.cps.toList.map fun c => ⟨#[c]⟩
def alS : List Str := chrs (digits ++ letters)
def wordsR : Nat → List Str
  | 0 => chrs letters
  | n + 1 => (wordsR n).flatMap fun w => alS.map (w ++ ·)
def levelU (U : List Str) (r : Nat) : List Str := (wordsR r).filter fun w => !decide (w ∈ U)
def firstL (U : List Str) : Nat → List Str
  | 0 => []
  | r + 1 => firstL U r ++ levelU U r
theorem alS_len : alS.length = 36 := by decide +kernel
theorem wordsR_len : ∀ n, (wordsR n).length = 26 * 36 ^ n
  | 0 => by decide +kernel
  | n + 1 => by
    show ((wordsR n).flatMap fun w => alS.map (w ++ ·)).length = _
    have : ∀ l : List Str, (l.flatMap fun w => alS.map (w ++ ·)).length = l.length * 36 := by
      intro l
      induction l with
      | nil => rfl
      | cons x r ih => rw [List.flatMap_cons, List.length_append, ih, List.length_map, alS_len, List.length_cons, Nat.succ_mul]; omega
    rw [this, wordsR_len n, Nat.pow_succ, Nat.mul_assoc]
theorem first_pre (U : List Str) : ∀ r, r ≤ 3 → ∃ t, firstL U 3 = firstL U r ++ t
  | 0, _ => ⟨_, rfl⟩
  | 1, _ => ⟨levelU U 1 ++ levelU U 2, by show ((([] ++ levelU U 0) ++ levelU U 1) ++ levelU U 2) = ([] ++ levelU U 0) ++ _; simp⟩
  | 2, _ => ⟨levelU U 2, rfl⟩
  | 3, _ => ⟨[], (List.append_nil _).symm⟩
  | n + 4, h => by omega
theorem firstL_le (U : List Str) {r : Nat} (hr : r ≤ 3) : (firstL U r).length ≤ 40000 := by
  obtain ⟨t, e⟩ := first_pre U r hr
  have h : (firstL U 3).length ≤ 40000 := by
    show (([] ++ levelU U 0 ++ levelU U 1) ++ levelU U 2).length ≤ _
    have l : ∀ n, (levelU U n).length ≤ 26 * 36 ^ n := fun n => Nat.le_trans (List.length_filter_le _ _) (Nat.le_of_eq (wordsR_len n))
    have l0 := l 0
    have l1 := l 1
    have l2 := l 2
    simp only [List.length_append, List.length_nil]
    omega
  rw [e, List.length_append] at h
  omega
theorem level_le (U : List Str) {r : Nat} (hr : r ≤ 2) : (levelU U r).length ≤ 40000 := by
  have := firstL_le U (r := r + 1) (by omega)
  have : (firstL U r ++ levelU U r).length ≤ 40000 := this
  rw [List.length_append] at this
  omega
section
variable {α : Type} {gd : DTG} {tk te : DTE} {vs : List Nat} {env : En} {w : W} {Q : DK} {fin : List (Key × D) → W → DK → Prop}
end
section
variable {α : Type} {gd : DTG} {te : DTE} {vs : List Nat} {env : En} {w : W} {Q : DK} {fin : List D → W → DK → Prop}
end
def Keep (w w' : W) : Prop := w'.n = w.n ∧ w'.e = w.e ∧ ∀ a m, w.m a = some m → w'.m a = some m
theorem Keep.refl (w : W) : Keep w w := ⟨rfl, rfl, fun _ _ h => h⟩
theorem Keep.put {w w' : W} {p : Addr} {o : MO} (k : Keep w w') (h : w.m p = none) : Keep w (w'.put p o) := ⟨k.1, k.2.1, fun a m e => by
  have ne : a ≠ p := fun z => by rw [z, h] at e; cases e
  exact (updM_ne ne).trans (k.2.2 a m e)⟩
theorem Keep.none {w w' : W} {p : Addr} (k : Keep w w') (h : w'.m p = none) : w.m p = none := by
  cases e : w.m p with
  | none => rfl
  | some m => rw [k.2.2 p m e] at h; cases h
def usedN (P : Parts) : List Str := (P.bn.map fun e => e.2.2) ++ ((P.ou.map fun e => e.2.2) ++ P.rs)
end DL
namespace DL
open PySem PySem.Spec PyProof.Rows L2
def topS (P : Parts) (b : Str) : Str := match lk P.bn b with
  | some p => p.1
  | none => Str.empty
def depN (P : Parts) (b : Str) : Nat := (way P.sc (topS P b)).length
end DL
namespace DL
open PySem PySem.Spec PyProof.Rows L2
section
variable {gd : DTG} {tt : DTT} {te : DTE} {vs : List Nat} {env : En} {w : W} {Q : DK} {fin : List D → W → DK → Prop}
end
theorem Lay.int {i : Int} (h : i.natAbs < 1024) : Lay 0 10 (.int i) := by
  have s := Sm.int h
  exact ⟨rfl, s.dp, s.wt, decide_eq_true (PyData.shown_int_le (Nat.lt_of_lt_of_le h (by decide))), s.sh⟩
end DL
namespace DL
open PySem PySem.Spec PyProof.Rows L2
structure Rq (k n : Nat) (p : PyData) : Prop where
  sh : p.showable = true
  dp : p.depth ≤ k
  wt : p.weight ≤ n
  is : p.leavesShort 64 = true
structure RqA (k n : Nat) (ps : List PyData) : Prop where
  sh : PyData.showableAll ps = true
  dp : PyData.depthAll ps ≤ k
  wt : PyData.weightAll ps ≤ ps.length * (n + 1)
  is : PyData.leavesShortAll 64 ps = true
theorem RqA.of {k n : Nat} : ∀ {ps : List PyData}, (∀ p ∈ ps, Rq k n p) → RqA k n ps
  | [], _ => ⟨rfl, Nat.zero_le _, Nat.zero_le _, rfl⟩
  | p :: r, h => by
    have h1 := h p (List.mem_cons_self ..)
    have ih := RqA.of fun q hq => h q (List.mem_cons_of_mem _ hq)
    refine ⟨?_, Nat.max_le.mpr ⟨h1.dp, ih.dp⟩, ?_, ?_⟩
    · unfold PyData.showableAll; rw [h1.sh, ih.sh]; rfl
    · unfold PyData.weightAll
      have := h1.wt
      have := ih.wt
      rw [List.length_cons, Nat.succ_mul]
      omega
    · unfold PyData.leavesShortAll; rw [h1.is, ih.is]; rfl
def Rp (k n : Nat) (d : D) : Prop := ∃ p, toPy d = some p ∧ Rq k n p
def rpB (k n : Nat) (d : D) : Bool := match toPy d with
  | some p => p.showable && (decide (p.depth ≤ k) && (decide (p.weight ≤ n) && p.leavesShort 64))
  | none => false
theorem Rp.of {k n : Nat} {d : D} (h : rpB k n d = true) : Rp k n d := by
  unfold rpB at h
  cases e : toPy d with
  | none => rw [e] at h; cases h
  | some p =>
    rw [e] at h
    simp only [Bool.and_eq_true, decide_eq_true_eq] at h
    exact ⟨p, e, h.1, h.2.1, h.2.2.1, h.2.2.2⟩
theorem Rp.mono {k n k' n' : Nat} {d : D} (h : Rp k n d) (hk : k ≤ k') (hn : n ≤ n') : Rp k' n' d :=
  let ⟨p, e, r⟩ := h; ⟨p, e, r.sh, Nat.le_trans r.dp hk, Nat.le_trans r.wt hn, r.is⟩
theorem Rp.seq {k n : Nat} : ∀ {xs : List D}, (∀ x ∈ xs, Rp k n x) → ∃ ps, toPyL xs = some ps ∧ ps.length = xs.length ∧ ∀ p ∈ ps, Rq k n p
  | [], _ => ⟨[], rfl, rfl, fun _ h => nomatch h⟩
  | x :: r, h => by
    obtain ⟨p, e, q⟩ := h x (List.mem_cons_self ..)
    obtain ⟨ps, e2, l, hp⟩ := Rp.seq fun y hy => h y (List.mem_cons_of_mem _ hy)
    refine ⟨p :: ps, by unfold toPyL; rw [e, e2]; rfl, by rw [List.length_cons, List.length_cons, l], fun z hz => ?_⟩
    rcases List.mem_cons.mp hz with rfl | hz
    · exact q
    · exact hp z hz
theorem Rp.lst {k n : Nat} {xs : List D} (h : ∀ x ∈ xs, Rp k n x) : Rp (k + 1) (xs.length * (n + 1)) (.lst xs) := by
  obtain ⟨ps, e, l, hp⟩ := Rp.seq h
  have a := RqA.of hp
  refine ⟨.list ps, by unfold toPy; rw [e]; rfl, a.sh, Nat.succ_le_succ a.dp, by rw [← l]; exact a.wt, a.is⟩
theorem Rp.tup {k n : Nat} {xs : List D} (h : ∀ x ∈ xs, Rp k n x) : Rp (k + 1) (xs.length * (n + 1)) (.tup xs) := by
  obtain ⟨ps, e, l, hp⟩ := Rp.seq h
  have a := RqA.of hp
  refine ⟨.tuple ps, by unfold toPy; rw [e]; rfl, a.sh, Nat.succ_le_succ a.dp, by rw [← l]; exact a.wt, a.is⟩
theorem Rp.shw {k n : Nat} {d : D} (h : Rp k n d) (hk : k ≤ 60) (hn : n ≤ 100000) : Shw d := by
  obtain ⟨p, e, r⟩ := h
  refine ⟨p, e, r.sh, Nat.le_trans r.dp hk, ?_, fun _ => rfl⟩
  have := PyData.shown_le 64 (by decide) p r.is
  have := Nat.le_trans r.wt hn
  rw [sizeLine_eq]
  omega
structure RqK (k n : Nat) (ps : List (PyData × PyData)) : Prop where
  sh : PyData.showableKv ps = true
  dp : PyData.depthKv ps ≤ k
  wt : PyData.weightKv ps ≤ ps.length * (n + 2)
  is : PyData.leavesShortKv 64 ps = true
theorem RqK.of {k n m : Nat} : ∀ {ps : List (PyData × PyData)}, (∀ p ∈ ps, Rq k n p.1 ∧ Rq k m p.2) → RqK k (n + m) ps
  | [], _ => ⟨rfl, Nat.zero_le _, Nat.zero_le _, rfl⟩
  | (a, b) :: r, h => by
    obtain ⟨h1, h2⟩ := h (a, b) (List.mem_cons_self ..)
    have ih := RqK.of fun q hq => h q (List.mem_cons_of_mem _ hq)
    refine ⟨?_, Nat.max_le.mpr ⟨Nat.max_le.mpr ⟨h1.dp, h2.dp⟩, ih.dp⟩, ?_, ?_⟩
    · unfold PyData.showableKv; rw [h1.sh, h2.sh, ih.sh]; rfl
    · unfold PyData.weightKv
      have w1 : a.weight ≤ n := h1.wt
      have w2 : b.weight ≤ m := h2.wt
      have w3 := ih.wt
      rw [List.length_cons, Nat.succ_mul]
      omega
    · unfold PyData.leavesShortKv; rw [h1.is, h2.is, ih.is]; rfl
theorem Rp.str {s : Str} (h : wordS s = true) : Rp 0 8 (.str s) :=
  have l := Lay.word h
  ⟨.str s, rfl, l.sh, l.dp, l.wt, PyData.leavesShort_of_canLay0 13 _ l.lay l.is⟩
theorem Rp.kseq {α : Type} {f : α → D} {k n : Nat} : ∀ {t : Tab α}, (∀ e ∈ t, wordS e.1 = true ∧ Rp k n (f e.2)) → ∃ ps, toPyK (mK f t) = some ps ∧ ps.length = t.length ∧ ∀ p ∈ ps, Rq k 8 p.1 ∧ Rq k n p.2
  | [], _ => ⟨[], rfl, rfl, fun _ h => nomatch h⟩
  | e :: r, h => by
    obtain ⟨h1, p, e1, q⟩ := h e (List.mem_cons_self ..)
    obtain ⟨ps, e2, l, hp⟩ := Rp.kseq fun y hy => h y (List.mem_cons_of_mem _ hy)
    obtain ⟨ks, ek, qk⟩ := Rp.str h1
    have ek : PyData.str e.1 = ks := Option.some.inj ek
    refine ⟨(.str e.1, p) :: ps, ?_, by rw [List.length_cons, List.length_cons, l], fun z hz => ?_⟩
    · show toPyK ((Sum.inr e.1, f e.2) :: mK f r) = _
      unfold toPyK
      rw [e1, e2]
      rfl
    rcases List.mem_cons.mp hz with rfl | hz
    · exact ⟨by rw [ek]; exact ⟨qk.sh, Nat.le_trans qk.dp (Nat.zero_le _), qk.wt, qk.is⟩, q⟩
    · exact hp z hz
theorem Rp.dic {α : Type} {f : α → D} {k n : Nat} {t : Tab α} (h : ∀ e ∈ t, wordS e.1 = true ∧ Rp k n (f e.2)) : Rp (k + 1) (t.length * (8 + n + 2)) (.dic (mK f t)) := by
  obtain ⟨ps, e, l, hp⟩ := Rp.kseq h
  have a := RqK.of hp
  exact ⟨.dict ps, by unfold toPy; rw [e]; rfl, a.sh, Nat.succ_le_succ a.dp, by rw [← l]; exact a.wt, a.is⟩
theorem Rp.pD {p : Str × Str} (h1 : wordS p.1 = true) (h2 : wordS p.2 = true) : Rp 1 18 (pD p) := by
  have := Rp.tup (k := 0) (n := 8) (xs := [.str p.1, .str p.2]) fun x hx => by
    simp only [List.mem_cons, List.not_mem_nil, or_false] at hx
    rcases hx with rfl | rfl
    · exact Rp.str h1
    · exact Rp.str h2
  exact this
theorem plL_of : ∀ {xs : List D}, (∀ x ∈ xs, pl x = true) → plL xs = true
  | [], _ => rfl
  | x :: r, h => by
    unfold plL
    rw [h x (List.mem_cons_self ..), plL_of fun y hy => h y (List.mem_cons_of_mem _ hy)]
    rfl
structure Th (d : D) : Prop where
  pl : pl d = true
  el : ∀ xs, (match d with | .lst xs => some xs | .tup xs => some xs | _ => none) = some xs → xs.length ≤ 4000
  rp : Rp 5 20000 d
theorem Th.seq {xs : List D} (hp : ∀ x ∈ xs, DL.pl x = true) (hr : ∀ x ∈ xs, Rp 4 400 x) (hl : xs.length ≤ 40) : Th (.lst xs) ∧ Th (.tup xs) :=
  have h : xs.length * (400 + 1) ≤ 20000 := by omega
  ⟨⟨plL_of hp, fun ys e => by cases e; omega, (Rp.lst hr).mono (by omega) h⟩, ⟨plL_of hp, fun ys e => by cases e; omega, (Rp.tup hr).mono (by omega) h⟩⟩
def thB (d : D) : Bool := pl d && (rpB 5 20000 d && (match d with | .lst xs => decide (xs.length ≤ 4000) | .tup xs => decide (xs.length ≤ 4000) | _ => true))
theorem Th.of {d : D} (h : thB d = true) : Th d := by
  unfold thB at h
  rw [Bool.and_eq_true, Bool.and_eq_true] at h
  obtain ⟨h1, h2, h3⟩ := h
  refine ⟨h1, fun xs e => ?_, Rp.of h2⟩
  cases d <;> first | (cases e; exact of_decide_eq_true h3) | cases e
end DL
namespace DL
open PySem PySem.Spec PyProof.Rows L2
theorem way_head {sc : Sc} (o : ScOk sc) {s : Str} (h : s ∈ keysN sc) : ∃ r, way sc s = s :: r := by
  obtain ⟨a, ha⟩ := lk_some h
  cases a with
  | none => exact ⟨[], o.way_root ha⟩
  | some p => exact ⟨_, o.way_cons ha⟩
theorem way_cmp {sc : Sc} (o : ScOk sc) {s t u : Str} (hs : s ∈ keysN sc) (ht : t ∈ way sc s) (hu : u ∈ way sc s) (hl : (way sc t).length ≤ (way sc u).length) : t ∈ way sc u := by
  obtain ⟨p, e1⟩ := o.way_mid s hs t ht
  obtain ⟨q, e2⟩ := o.way_mid s hs u hu
  have s1 : way sc t <:+ way sc s := ⟨p, e1.symm⟩
  have s2 : way sc u <:+ way sc s := ⟨q, e2.symm⟩
  have := List.suffix_of_suffix_length_le s1 s2 hl
  exact this.subset (o.self_mem (o.way_keys s hs t ht))
theorem way_trans {sc : Sc} (o : ScOk sc) {s t u : Str} (hs : s ∈ keysN sc) (ht : t ∈ way sc s) (hu : u ∈ way sc t) : u ∈ way sc s := by
  obtain ⟨p, e⟩ := o.way_mid s hs t ht
  rw [e]
  exact List.mem_append_right _ hu
theorem way_anti {sc : Sc} (o : ScOk sc) {s t : Str} (hs : s ∈ keysN sc) (ht : t ∈ way sc s) (hst : s ∈ way sc t) : s = t := by
  have htk := o.way_keys s hs t ht
  obtain ⟨p, e1⟩ := o.way_mid s hs t ht
  obtain ⟨q, e2⟩ := o.way_mid t htk s hst
  have l1 := congrArg List.length e1
  have l2 := congrArg List.length e2
  rw [List.length_append] at l1 l2
  have hp : p = [] := List.eq_nil_of_length_eq_zero (by omega)
  rw [hp] at e1
  obtain ⟨r, h1⟩ := way_head o hs
  obtain ⟨r', h2⟩ := way_head o htk
  rw [h1, h2] at e1
  exact (List.cons.inj e1).1
theorem upTo_in {l r : List Str} {t : Str} (h : t ∈ l) : upTo (l ++ r) t = upTo l t := by
  induction l with
  | nil => cases h
  | cons a l ih =>
    unfold upTo
    rw [List.cons_append, List.takeWhile_cons, List.takeWhile_cons]
    by_cases e : a = t
    · rw [if_neg (by simp [e]), if_neg (by simp [e])]
    · rw [if_pos (by simp [e]), if_pos (by simp [e])]
      have := ih ((List.mem_cons.mp h).resolve_left fun z => e z.symm)
      unfold upTo at this
      rw [this]
theorem upTo_out {l r : List Str} {t : Str} (h : t ∉ l) : upTo (l ++ r) t = l ++ upTo r t := by
  induction l with
  | nil => rfl
  | cons a l ih =>
    have h1 : ¬ a = t := fun z => h (z ▸ List.mem_cons_self)
    have h2 : t ∉ l := fun z => h (List.mem_cons_of_mem _ z)
    unfold upTo
    rw [List.cons_append, List.takeWhile_cons, if_pos (by simp [h1])]
    have := ih h2
    unfold upTo at this
    rw [this]
    rfl
theorem span_way {P : Parts} (o : WF P) {b s : Str} {p : Str × Str} (hb : lk P.bn b = some p) (hs : s ∈ spanN P b) : s ∈ keysN P.sc ∧ p.1 ∈ way P.sc s := by
  have hk := spanN_sub o s hs
  refine ⟨hk, ?_⟩
  rcases (spanN_mem hb).mp hs with rfl | ⟨e, he, eb, hu⟩
  · exact o.sc.self_mem hk
  · obtain ⟨_, h2, x, h3, h4⟩ := o.uwd e he
    rw [eb, hb] at h3
    cases h3
    have hx := e.2.1
    have hsw := upTo_sub hu
    obtain ⟨pre, ew⟩ := o.sc.way_mid e.2.1 h2 s hsw
    have nd := o.sc.way_nodup e.2.1 h2
    rw [ew] at h4 hu nd
    rcases List.mem_append.mp h4 with h4 | h4
    · rw [upTo_in h4] at hu
      have h5 := upTo_sub hu
      exact absurd rfl ((List.nodup_append.mp nd).2.2 s h5 s (o.sc.self_mem hk))
    · exact h4
theorem span_between {P : Parts} (o : WF P) {b s u : Str} {p : Str × Str} (hb : lk P.bn b = some p) (hs : s ∈ spanN P b) (hu : u ∈ way P.sc s) (ht : p.1 ∈ way P.sc u) : u ∈ spanN P b := by
  obtain ⟨hk, _⟩ := span_way o hb hs
  have huk := o.sc.way_keys s hk u hu
  by_cases e0 : u = p.1
  · exact (spanN_mem hb).mpr (.inl e0)
  refine (spanN_mem hb).mpr (.inr ?_)
  rcases (spanN_mem hb).mp hs with rfl | ⟨e, he, eb, hw⟩
  · exact absurd (way_anti o.sc hk hu ht).symm e0
  · obtain ⟨_, h2, _⟩ := o.uwd e he
    have hsw := upTo_sub hw
    have huw := way_trans o.sc h2 hsw hu
    refine ⟨e, he, eb, ?_⟩
    obtain ⟨pre, ew⟩ := o.sc.way_mid e.2.1 h2 u huw
    have nd := o.sc.way_nodup e.2.1 h2
    rw [ew] at nd ⊢
    have hn : p.1 ∉ pre := fun z => absurd rfl ((List.nodup_append.mp nd).2.2 _ z _ ht)
    rw [upTo_out hn]
    obtain ⟨r, er⟩ := way_head o.sc huk
    rw [er]
    refine List.mem_append_right _ ?_
    unfold upTo
    rw [List.takeWhile_cons, if_pos (by simp [e0])]
    exact List.mem_cons_self
theorem meet_own {P : Parts} (o : WF P) {a b : Str} {p q : Str × Str} (ha : lk P.bn a = some p) (hb : lk P.bn b = some q) (hm : meetB P b a = true) (hd : (way P.sc p.1).length ≤ (way P.sc q.1).length) : q.1 ∈ spanN P a := by
  unfold meetB at hm
  obtain ⟨s, h1, h2⟩ := List.any_eq_true.mp hm
  have h2 := of_decide_eq_true h2
  obtain ⟨hk, w1⟩ := span_way o hb h1
  obtain ⟨_, w2⟩ := span_way o ha h2
  exact span_between o ha h2 w1 (way_cmp o.sc hk w2 w1 hd)
theorem meetB_comm (P : Parts) (a b : Str) : meetB P a b = meetB P b a := by
  have key : ∀ a b : Str, meetB P a b = true → meetB P b a = true := fun a b h => by
    unfold meetB at h ⊢
    obtain ⟨s, h1, h2⟩ := List.any_eq_true.mp h
    exact List.any_eq_true.mpr ⟨s, of_decide_eq_true h2, decide_eq_true h1⟩
  cases h : meetB P a b with
  | true => exact (key a b h).symm
  | false =>
    cases h2 : meetB P b a with
    | false => rfl
    | true => rw [key b a h2] at h; cases h
end DL
namespace DL
open PySem PySem.Spec PyProof.Rows L2
section
variable {α : Type} [DecidableEq α]
def wt (f : α → Int) : List α → Int
  | [] => 0
  | x :: r => f x + wt f r
def aboveC (nb : α → List α) (dn : List α) (b : α) : List α := (nb b).filter fun x => !decide (x ∈ dn)
def spendR (rest : α → Int) (b : α) (ab : List α) : α → Int := fun x => if x = b ∨ x ∈ ab then max (rest x - rest b) 0 else rest x
def pickC (nb : α → List α) : List α → List α → (α → Int) → List (α × Int × List α)
  | [], _, _ => []
  | b :: r, dn, rest => if rest b > 0 then (b, rest b, aboveC nb (b :: dn) b) :: pickC nb r (b :: dn) (spendR rest b (aboveC nb (b :: dn) b)) else pickC nb r (b :: dn) rest
def keepC (nb : α → List α) : List (α × Int × List α) → List α
  | [] => []
  | c :: cs => if (nb c.1).any (fun x => decide (x ∈ keepC nb cs)) = true then keepC nb cs else keepC nb cs ++ [c.1]
structure Clq (nb : α → List α) (dn ord : List α) : Prop where
  nd : ord.Nodup
  dj : ∀ x ∈ ord, x ∉ dn
  sub : ∀ b ∈ ord, ∀ x ∈ nb b, x ∈ ord ∨ x ∈ dn
  sym : ∀ a ∈ ord, ∀ b ∈ ord, a ∈ nb b → b ∈ nb a
  irr : ∀ b ∈ ord, b ∉ nb b
  clq : ∀ pre b post, ord = pre ++ b :: post → ∀ x ∈ post, ∀ y ∈ post, x ∈ nb b → y ∈ nb b → x ≠ y → y ∈ nb x
theorem Clq.tail {nb : α → List α} {dn r : List α} {b : α} (c : Clq nb dn (b :: r)) : Clq nb (b :: dn) r := by
  have nd := List.nodup_cons.mp c.nd
  refine ⟨nd.2, fun x hx h => ?_, fun y hy x hx => ?_, fun a ha b hb => c.sym a (List.mem_cons_of_mem _ ha) b (List.mem_cons_of_mem _ hb), fun y hy => c.irr y (List.mem_cons_of_mem _ hy), fun pre y post e => c.clq (b :: pre) y post (by rw [e]; rfl)⟩
  · rcases List.mem_cons.mp h with h | h
    · exact nd.1 (h ▸ hx)
    · exact c.dj x (List.mem_cons_of_mem _ hx) h
  · rcases c.sub y (List.mem_cons_of_mem _ hy) x hx with h | h
    · rcases List.mem_cons.mp h with h | h
      · exact .inr (h ▸ List.mem_cons_self)
      · exact .inl h
    · exact .inr (List.mem_cons_of_mem _ h)
end
end DL
namespace DL
open PySem PySem.Spec PyProof.Rows L2
abbrev Grp := Str × List Str × Int
def valI (r : Tab Int) (a : Str) : Int := (lk r a).getD 0
theorem valI_of {r : Tab Int} {a : Str} {i : Int} (h : lk r a = some i) : valI r a = i := by unfold valI; rw [h]; rfl
theorem lk_valI {r : Tab Int} {a : Str} (h : a ∈ keysN r) : lk r a = some (valI r a) := by
  obtain ⟨i, hi⟩ := lk_some h
  rw [valI_of hi, hi]
section
variable {α : Type} {gd : DTG} {te : DTE} {vs : List Nat} {env : En} {w : W}
end
def nbN (ps : List (Str × Str)) (fr : List (Key × D)) (b : Str) : List Str :=
  ((ps.filter fun q => decide (q.1 = b) && (valD fr (.inr q.2)).isSome).map (·.2)) ++ (ps.filter fun q => decide (q.2 = b) && (valD fr (.inr q.1)).isSome).map (·.1)
abbrev nbF (ps : List (Str × Str)) (fr : Tab Int) (b : Str) : List Str := nbN ps (mK .int fr) b
def keyS (dp : Tab Int) (b : Str) : PyData := .tuple [.int (-(valI dp b)), .str b]
noncomputable def ordF (dp : Tab Int) (ks : List Str) : List Str := ks.mergeSort (PySem.W.dataLe false (keyS dp))
theorem put_self {w : W} {p : Addr} {o : MO} (h : w.m p = some o) : w.put p o = w := by
  refine W.same ?_ rfl rfl
  funext a
  show updM w.m p o a = w.m a
  by_cases e : a = p
  · rw [e, updM_same, h]
  · rw [updM_ne e]
section
variable {w w2 : W} {g rA cA dA : Addr} {R : Tab Int} {cs dn : List Str} {gs : List Grp}
end
section
variable {α : Type} {gd : DTG} {tt : DTT} {tk te : DTE} {vs : List Nat} {env : En} {w : W} {Q : DK} {fin : List (Key × D) → W → DK → Prop}
theorem dc_filtM {items : List D} (xs : List α) (g : α → D) (ei : items = xs.map g) (p : α → Bool) (kf : α → Str) (vf : α → D) (hz : xs.length ≤ 1000000) (hn : (xs.map kf).Nodup)
    (h : ∀ a, a ∈ xs → ∀ (R : Key → D → W → Prop) (S : W → Prop), (p a = true → R (.inr (kf a)) (vf a) w.mute) → (p a = false → S w.mute) → gd (g a) (wipeD env vs) w.mute fun env2 w3 => tt env2 w3 fun b w4 => if b = true then tk env2 w4 fun y w5 => te env2 w5 fun z w6 => ∃ k, keyOf y = some k ∧ R k z w6 else S w4)
    (hf : fin ((xs.filter p).map fun a => (Sum.inr (kf a), vf a)) w Q) :
    items.length ≤ sizeLine ∧ ∃ Pv : Nat → List (Key × D) → W → Prop, Pv 0 [] w ∧
      (∀ i x acc w2, items[i]? = some x → acc.length ≤ i → Pv i acc w2 → gd x (wipeD env vs) w2.mute fun env2 w3 => tt env2 w3 fun b w4 => if b = true then tk env2 w4 fun y w5 => te env2 w5 fun z w6 => ∃ k, keyOf y = some k ∧ Pv (i + 1) (putD acc k z) (w6.as w) else Pv (i + 1) acc (w4.as w)) ∧
      ∀ acc w2, Pv items.length acc w2 → fin acc w2 Q := by
  subst ei
  refine ⟨by rw [List.length_map]; exact le_sz hz, fun i acc w2 => w2 = w ∧ acc = ((xs.take i).filter p).map fun a => (Sum.inr (kf a), vf a), ⟨rfl, rfl⟩, ?_, ?_⟩
  · rintro i x acc w2 hx _ ⟨rfl, rfl⟩
    rw [List.getElem?_map] at hx
    obtain ⟨a, ha, rfl⟩ := Option.map_eq_some_iff.mp hx
    have et : xs.take (i + 1) = xs.take i ++ [a] := by rw [List.take_succ, ha]; rfl
    have hnew := take_new (xs := xs.map kf) (i := i) (x := kf a) hn (by rw [List.getElem?_map, ha]; rfl)
    refine h a (List.mem_of_getElem? ha) (fun k z w6 => w6.as w2 = w2 ∧ putD (((xs.take i).filter p).map fun a => (Sum.inr (kf a), vf a)) k z = ((xs.take (i + 1)).filter p).map fun a => (Sum.inr (kf a), vf a)) (fun w4 => w4.as w2 = w2 ∧ (((xs.take i).filter p).map fun a => ((Sum.inr (kf a), vf a) : Key × D)) = ((xs.take (i + 1)).filter p).map fun a => (Sum.inr (kf a), vf a)) (fun hp => ⟨rfl, ?_⟩) (fun hp => ⟨rfl, ?_⟩)
    · rw [et, List.filter_append, List.filter_cons_of_pos hp, putD_new, List.map_append]
      · rfl
      · intro kv hm e
        obtain ⟨y, hy, rfl⟩ := List.mem_map.mp hm
        have e : kf y = kf a := Sum.inr.inj e
        refine hnew ?_
        rw [← e, ← List.map_take]
        exact List.mem_map.mpr ⟨y, (List.mem_filter.mp hy).1, rfl⟩
    · rw [et, List.filter_append, List.filter_cons_of_neg (by rw [hp]; decide)]
      simp
  · rintro acc w2 ⟨rfl, rfl⟩
    rw [List.length_map, List.take_length]
    exact hf
theorem dc_mapM {items : List D} (xs : List α) (g : α → D) (ei : items = xs.map g) (kf : α → Str) (vf : α → D) (hz : xs.length ≤ 1000000) (hn : (xs.map kf).Nodup)
    (h : ∀ a, a ∈ xs → ∀ (R : Key → D → W → Prop), R (.inr (kf a)) (vf a) w.mute → gd (g a) (wipeD env vs) w.mute fun env2 w3 => tk env2 w3 fun y w5 => te env2 w5 fun z w6 => ∃ k, keyOf y = some k ∧ R k z w6)
    (hf : fin (xs.map fun a => (Sum.inr (kf a), vf a)) w Q) :
    items.length ≤ sizeLine ∧ ∃ Pv : Nat → List (Key × D) → W → Prop, Pv 0 [] w ∧
      (∀ i x acc w2, items[i]? = some x → acc.length ≤ i → Pv i acc w2 → gd x (wipeD env vs) w2.mute fun env2 w3 => dYes env2 w3 fun b w4 => if b = true then tk env2 w4 fun y w5 => te env2 w5 fun z w6 => ∃ k, keyOf y = some k ∧ Pv (i + 1) (putD acc k z) (w6.as w) else Pv (i + 1) acc (w4.as w)) ∧
      ∀ acc w2, Pv items.length acc w2 → fin acc w2 Q := by
  refine dc_filtM (tt := dYes) xs g ei (fun _ => true) kf vf hz hn (fun a ha R S hR _ => ?_) (by rw [List.filter_eq_self.mpr fun _ _ => rfl]; exact hf)
  exact h a ha R (hR rfl)
end
end DL
namespace DL
open PySem PySem.Spec PyProof.Rows L2
section
variable {α : Type} {gd : DTG} {tt : DTT} {te : DTE} {vs : List Nat} {env : En} {w : W} {Q : DK} {fin : List D → W → DK → Prop}
end
def shT (d : D) : Str := match toPy d with
  | some p => p.shown
  | none => Str.empty
theorem Shw.at_ {d : D} (h : Shw d) : ∃ p, toPy d = some p ∧ ShowOk p ∧ p.shown = shT d := by
  obtain ⟨p, h1, h2⟩ := h
  exact ⟨p, h1, h2, by unfold shT; rw [h1]⟩
theorem Lmk.frz {tp : Str → Addr} {n : Str} {w : W} (h : Lmk tp n w) {p : Addr} {o : MO} (hp : w.m p = none) : Lmk tp n ((w.put p o).del p) := by
  rw [W.del_put hp]
  exact h
theorem Lmk.putN {tp : Str → Addr} {n : Str} {w : W} (h : Lmk tp n w) {p : Addr} {o : MO} (hn : tp n ≠ p) : Lmk tp n (w.put p o) := by
  unfold Lmk
  rw [W.put_ne hn]
  exact h
end DL
namespace DL
open PySem PySem.Spec PyProof.Rows L2
theorem tabs_ext {α : Type} : ∀ {t u : Tab α}, (keysN t).Nodup → keysN t = keysN u → (∀ s, lk t s = lk u s) → t = u
  | [], [], _, _, _ => rfl
  | [], _ :: _, _, h, _ => by cases h
  | _ :: _, [], _, h, _ => by cases h
  | (a, x) :: r, (b, y) :: r', nd, h, hl => by
    have h : a :: keysN r = b :: keysN r' := h
    obtain ⟨e1, e2⟩ := List.cons.inj h
    subst e1
    have nd : (a :: keysN r).Nodup := nd
    have hn := List.nodup_cons.mp nd
    have e3 : x = y := by
      have := hl a
      rw [lk_cons, lk_cons, if_pos rfl, if_pos rfl] at this
      exact Option.some.inj this
    subst e3
    rw [tabs_ext hn.2 e2 fun s => ?_]
    by_cases hs : a = s
    · subst hs
      rw [lk_none hn.1, lk_none (e2 ▸ hn.1)]
    · have := hl s
      rw [lk_cons, lk_cons, if_neg hs, if_neg hs] at this
      exact this
theorem asc_eq {α : Type} {t u : Tab α} (nd : (keysN t).Nodup) (p : t.Perm u) : ascN t = ascN u := by
  have nu : (keysN u).Nodup := (perm_keys p).nodup_iff.mp nd
  refine tabs_ext (nodup_ascN nd) ?_ fun s => ?_
  · rw [keysN_ascN, keysN_ascN]
    exact sort_same nd nu fun s => (perm_keys p).mem_iff
  · rw [lk_ascN nd, lk_ascN nu]
    exact (lk_perm nd p s).symm
structure PermP (P P' : Parts) : Prop where
  sc : P.sc.Perm P'.sc
  bn : P.bn.Perm P'.bn
  us : P.us.Perm P'.us
  ou : P.ou.Perm P'.ou
  rs : P.rs.Perm P'.rs
theorem WF.perm {P P' : Parts} (o : WF P) (p : PermP P P') : WF P' := by
  obtain ⟨z1, z2, z3, z4, z5⟩ := o.sm
  have hsc : ∀ s, s ∈ keysN P.sc → s ∈ keysN P'.sc := fun s h => (perm_keys p.sc).mem_iff.mp h
  refine ⟨o.sc.perm p.sc, (perm_keys p.bn).nodup_iff.mp o.bnd, fun e he => ?_, (perm_keys p.us).nodup_iff.mp o.usd, fun e he => ?_, (perm_keys p.ou).nodup_iff.mp o.oud, fun e he => ?_, fun s hs hu => ?_, fun s hs => o.rwd s (p.rs.mem_iff.mpr hs), ?_⟩
  · obtain ⟨h1, h2, h3⟩ := o.bwd e (p.bn.mem_iff.mpr he)
    exact ⟨h1, h2, hsc _ h3⟩
  · obtain ⟨h1, h2, b, h3, h4⟩ := o.uwd e (p.us.mem_iff.mpr he)
    refine ⟨h1, hsc _ h2, b, by rw [lk_perm o.bnd p.bn]; exact h3, ?_⟩
    rw [way_perm o.sc.nd p.sc]
    exact h4
  · obtain ⟨h1, h2, h3⟩ := o.owd e (p.ou.mem_iff.mpr he)
    exact ⟨h1, h2, hsc _ h3⟩
  · exact o.dis s ((perm_keys p.ou).mem_iff.mpr hs) ((perm_keys p.us).mem_iff.mpr hu)
  · exact ⟨by rw [← p.sc.length_eq]; exact z1, by rw [← p.bn.length_eq]; exact z2, by rw [← p.us.length_eq]; exact z3, by rw [← p.ou.length_eq]; exact z4, by rw [← p.rs.length_eq]; exact z5⟩
end DL
namespace DL
open PySem PySem.Spec PyProof.Rows L2
structure Few (P : Parts) : Prop where
  sc : P.sc.length ≤ 60
  bn : P.bn.length ≤ 80
  us : P.us.length ≤ 80
  ou : P.ou.length ≤ 80
  rs : P.rs.length ≤ 60
theorem Few.sort {P : Parts} (h : Few P) : Few (sortP P) :=
  ⟨by show (ascN P.sc).length ≤ _; rw [len_ascN]; exact h.sc, by show (ascN P.bn).length ≤ _; rw [len_ascN]; exact h.bn, by show (ascN P.us).length ≤ _; rw [len_ascN]; exact h.us,
    by show (ascN P.ou).length ≤ _; rw [len_ascN]; exact h.ou, by show (sortT (nubT P.rs)).length ≤ _; rw [sortT_len]; exact Nat.le_trans (nubT_len _) h.rs⟩
structure Tabs (ts : List (Addr × List (Key × D))) (f : Nat → List (Key × D) → List (Key × D)) (w : W) : Prop where
  nd : (ts.map (·.1)).Nodup
  at_ : ∀ (k : Nat) g, ts[k]? = some g → w.m g.1 = some (.dic (f k g.2))
theorem Tabs.put {ts : List (Addr × List (Key × D))} {f f' : Nat → List (Key × D) → List (Key × D)} {w : W} (h : Tabs ts f w) {i : Nat} {g : Addr × List (Key × D)} (hi : ts[i]? = some g) (h1 : ∀ k t, k ≠ i → f' k t = f k t) {o : List (Key × D)} (h2 : f' i g.2 = o) : Tabs ts f' (w.put g.1 (.dic o)) := by
  refine ⟨h.nd, fun k g' hk => ?_⟩
  by_cases e : k = i
  · subst e
    rw [hi] at hk
    cases hk
    rw [h2]
    exact W.put_at
  · have ne : g'.1 ≠ g.1 := fun z => by
      have a1 : (ts.map (·.1))[k]? = some g'.1 := by rw [List.getElem?_map, hk]; rfl
      have a2 : (ts.map (·.1))[i]? = some g'.1 := by rw [List.getElem?_map, hi, z]; rfl
      have l1 := (List.getElem?_eq_some_iff.mp a1).1
      exact e ((List.getElem?_inj l1 h.nd).mp (a1.trans a2.symm))
    rw [h1 k _ e]
    exact (W.put_ne ne).trans (h.at_ k g' hk)
end DL
namespace DL
open PySem PySem.Spec PyProof.Rows L2
def firstNE (f : Str → List Str) : List Str → List Str
  | [] => []
  | s :: r => if f s = [] then firstNE f r else f s
def declN (P : Parts) (x : Str) (t : Str) : List Str := (P.bn.filter fun e => decide (e.2 = (t, x))).map fun e => e.1
def foundN (P : Parts) (s x : Str) : List Str := firstNE (declN P x) (way P.sc s)
def seenAt (P : Parts) (x : Str) (t : Str) : List Str := (sortT (keysN P.bn)).filter fun k => decide (lk P.bn k = some (t, x))
def seenN (P : Parts) (s x : Str) : List Str := firstNE (seenAt P x) (way P.sc s)
theorem firstNE_congr {f g : Str → List Str} : ∀ {l : List Str}, (∀ s ∈ l, f s = g s) → firstNE f l = firstNE g l
  | [], _ => rfl
  | s :: r, h => by
    unfold firstNE
    rw [h s (List.mem_cons_self ..), firstNE_congr fun t ht => h t (List.mem_cons_of_mem _ ht)]
theorem firstNE_mem {f : Str → List Str} {k : Str} : ∀ {l : List Str}, k ∈ firstNE f l → ∃ s ∈ l, k ∈ f s
  | s :: r, h => by
    unfold firstNE at h
    split at h
    · obtain ⟨t, h1, h2⟩ := firstNE_mem h
      exact ⟨t, List.mem_cons_of_mem _ h1, h2⟩
    · exact ⟨s, List.mem_cons_self .., h⟩
end DL
namespace DL
open PySem PySem.Spec PyProof.Rows L2
theorem firstNE_append (f : Str → List Str) : ∀ l r : List Str, firstNE f (l ++ r) = if firstNE f l = [] then firstNE f r else firstNE f l
  | [], r => by rw [List.nil_append]; exact (if_pos rfl).symm
  | a :: l, r => by
    rw [List.cons_append]
    show (if f a = [] then firstNE f (l ++ r) else f a) = if (if f a = [] then firstNE f l else f a) = [] then firstNE f r else if f a = [] then firstNE f l else f a
    by_cases h : f a = []
    · rw [if_pos h, if_pos h]
      exact firstNE_append f l r
    · rw [if_neg h, if_neg h, if_neg h]
theorem firstNE_nil {f : Str → List Str} : ∀ {l : List Str}, firstNE f l = [] ↔ ∀ s ∈ l, f s = []
  | [] => ⟨fun _ s hs => (nomatch hs), fun _ => rfl⟩
  | a :: l => by
    show (if f a = [] then firstNE f l else f a) = [] ↔ _
    by_cases h : f a = []
    · rw [if_pos h, firstNE_nil]
      exact ⟨fun q s hs => (List.mem_cons.mp hs).elim (fun e => e ▸ h) (q s), fun q s hs => q s (List.mem_cons_of_mem _ hs)⟩
    · rw [if_neg h]
      exact ⟨fun q => absurd q h, fun q => absurd (q a List.mem_cons_self) h⟩
theorem seenAt_mem {P : Parts} {x t k : Str} : k ∈ seenAt P x t ↔ lk P.bn k = some (t, x) := by
  unfold seenAt
  rw [List.mem_filter, mem_sortT, decide_eq_true_eq]
  exact ⟨fun h => h.2, fun h => ⟨lk_key h, h⟩⟩
theorem upTo_split {l : List Str} {t : Str} (h : t ∈ l) : ∃ r, l = upTo l t ++ t :: r := by
  induction l with
  | nil => cases h
  | cons a l ih =>
    by_cases e : a = t
    · subst e
      refine ⟨l, ?_⟩
      unfold upTo
      rw [List.takeWhile_cons, if_neg (by simp)]
      rfl
    · obtain ⟨r, hr⟩ := ih ((List.mem_cons.mp h).resolve_left fun z => e z.symm)
      refine ⟨r, ?_⟩
      have : upTo (a :: l) t = a :: upTo l t := by
        unfold upTo
        rw [List.takeWhile_cons, if_pos (by simp [e])]
      rw [this, List.cons_append, ← hr]
theorem upTo_ne {l : List Str} {t s : Str} (h : s ∈ upTo l t) : s ≠ t := by
  have : ∀ l : List Str, s ∈ l.takeWhile (fun s => decide (s ≠ t)) → s ≠ t := fun l => by
    induction l with
    | nil => exact fun h => nomatch h
    | cons a l ih =>
      rw [List.takeWhile_cons]
      split
      · rename_i ha
        intro h
        rcases List.mem_cons.mp h with rfl | h
        · exact of_decide_eq_true ha
        · exact ih h
      · exact fun h => nomatch h
  exact this l h
theorem confB_iff {P : Parts} {a b : Str} {p q : Str × Str} (ha : lk P.bn a = some p) (hb : lk P.bn b = some q) : confB P a b = true ↔ p.2 = q.2 ∧ meetB P a b = true := by
  unfold confB wordAt
  rw [Bool.and_eq_true, decide_eq_true_eq, ha, hb]
  simp
theorem confB_comm (P : Parts) (a b : Str) : confB P a b = confB P b a := by
  unfold confB
  rw [meetB_comm P a b]
  congr 1
  exact decide_eq_decide.mpr ⟨Eq.symm, Eq.symm⟩
theorem barB_iff {P : Parts} {b : Str} {p : Str × Str} (hb : lk P.bn b = some p) : barB P b = true ↔ p.2 ∈ P.rs ∨ ∃ e ∈ P.ou, e.2.2 = p.2 ∧ p.1 ∈ way P.sc e.2.1 := by
  unfold barB
  rw [hb]
  show decide (p.2 ∈ takenN P p.1) = true ↔ _
  rw [decide_eq_true_eq, takenN_mem]
structure Right (P : Parts) : Prop where
  dst : (P.bn.map (·.2)).Nodup
  res : ∀ e ∈ P.bn, e.2.2 ∉ P.rs
  use : ∀ e ∈ P.us, ∀ p, lk P.bn e.2.2 = some p → seenN P e.2.1 p.2 = [e.2.2]
  out : ∀ e ∈ P.ou, seenN P e.2.1 e.2.2 = []
structure Free (P : Parts) (K : List Str) : Prop where
  bar : ∀ b ∈ K, barB P b = false
  con : ∀ a ∈ K, ∀ b ∈ K, a ≠ b → confB P a b = false
theorem pair_one {P : Parts} (o : WF P) (h : (P.bn.map (·.2)).Nodup) {a b : Str} {p : Str × Str} (ha : lk P.bn a = some p) (hb : lk P.bn b = some p) : a = b := by
  have m1 := lk_mem ha
  have m2 := lk_mem hb
  have key : ∀ l : Tb, (l.map (·.2)).Nodup → (a, p) ∈ l → (b, p) ∈ l → a = b := fun l => by
    induction l with
    | nil => exact fun _ h => nomatch h
    | cons e r ih =>
      intro nd h1 h2
      have nd := List.nodup_cons.mp nd
      rcases List.mem_cons.mp h1 with z1 | z1
      · rcases List.mem_cons.mp h2 with z2 | z2
        · exact congrArg Prod.fst (z1.trans z2.symm)
        · exact absurd (List.mem_map.mpr ⟨_, z2, by rw [← z1]⟩) nd.1
      · rcases List.mem_cons.mp h2 with z2 | z2
        · exact absurd (List.mem_map.mpr ⟨_, z1, by rw [← z2]⟩) nd.1
        · exact ih nd.2 z1 z2
  exact key P.bn h m1 m2
theorem Right.free {P : Parts} (o : WF P) (r : Right P) : Free P (keysN P.bn) := by
  refine ⟨fun b hb => ?_, fun a ha b hb hab => ?_⟩
  · obtain ⟨p, hp⟩ := lk_some hb
    cases h : barB P b with
    | false => rfl
    | true =>
      rcases (barB_iff hp).mp h with h | ⟨e, he, h1, h2⟩
      · exact absurd h (r.res (b, p) (lk_mem hp))
      · have hs := firstNE_nil.mp (r.out e he) p.1 h2
        have hm : b ∈ seenAt P e.2.2 p.1 := seenAt_mem.mpr (by rw [hp, h1])
        rw [hs] at hm
        cases hm
  ·
    have key : ∀ a b : Str, a ∈ keysN P.bn → b ∈ keysN P.bn → a ≠ b → depN P a ≤ depN P b → confB P a b = false := fun a b ha hb hab hd => by
      obtain ⟨p, hp⟩ := lk_some ha
      obtain ⟨q, hq⟩ := lk_some hb
      cases h : confB P a b with
      | false => rfl
      | true =>
        obtain ⟨hw, hm⟩ := (confB_iff hp hq).mp h
        have hd : (way P.sc p.1).length ≤ (way P.sc q.1).length := by
          unfold depN topS at hd
          rw [hp, hq] at hd
          exact hd
        have hin := meet_own o hp hq (by rw [meetB_comm]; exact hm) hd
        rcases (spanN_mem hp).mp hin with e1 | ⟨e, he, et, hu⟩
        · have : p = q := by
            obtain ⟨p1, p2⟩ := p
            obtain ⟨q1, q2⟩ := q
            have e1 : q1 = p1 := e1
            have hw : p2 = q2 := hw
            rw [e1, hw]
          subst this
          exact absurd (pair_one o r.dst hp hq) hab
        · obtain ⟨_, h2, x, h3, h4⟩ := o.uwd e he
          rw [et, hp] at h3
          cases h3
          have hsee := r.use e he p (by rw [et]; exact hp)
          obtain ⟨rest, er⟩ := upTo_split h4
          have hb2 : b ∈ seenAt P p.2 q.1 := seenAt_mem.mpr (by rw [hq, hw])
          have hne : firstNE (seenAt P p.2) (upTo (way P.sc e.2.1) p.1) ≠ [] := fun z => by
            have := firstNE_nil.mp z q.1 hu
            rw [this] at hb2
            cases hb2
          unfold seenN at hsee
          rw [er, firstNE_append, if_neg hne] at hsee
          have hmem : e.2.2 ∈ firstNE (seenAt P p.2) (upTo (way P.sc e.2.1) p.1) := by rw [hsee]; exact List.mem_cons_self
          obtain ⟨s, hs1, hs2⟩ := firstNE_mem hmem
          have := seenAt_mem.mp hs2
          rw [et, hp] at this
          have := congrArg Prod.fst (Option.some.inj this)
          exact absurd this.symm (upTo_ne hs1)
    rcases Nat.le_total (depN P a) (depN P b) with h | h
    · exact key a b ha hb hab h
    · rw [confB_comm]
      exact key b a hb ha (Ne.symm hab) h
end DL
namespace DL
open PySem PySem.Spec PyProof.Rows L2
section
variable {α : Type} {gd : DTG} {tt : DTT} {te : DTE} {vs : List Nat} {env : List (Option D)} {w : W} {Q : DK} {fin : List D → W → DK → Prop}
end
theorem seen_perm {P P' : Parts} (o : WF P) (hs : P.sc.Perm P'.sc) (hb : P.bn.Perm P'.bn) (s x : Str) : seenN P' s x = seenN P s x := by
  unfold seenN
  rw [← way_perm o.sc.nd hs s]
  refine firstNE_congr fun t _ => ?_
  unfold seenAt
  have : sortT (keysN P'.bn) = sortT (keysN P.bn) := sortT_eq (hb.symm.map _)
  rw [this]
  refine List.filter_congr fun k _ => ?_
  rw [lk_perm o.bnd hb]
theorem Right.perm {P P' : Parts} (o : WF P) (h1 : P.sc.Perm P'.sc) (h2 : P.bn.Perm P'.bn) (h3 : P.us.Perm P'.us) (h4 : P.ou.Perm P'.ou) (h5 : ∀ x, x ∈ P'.rs ↔ x ∈ P.rs) (r : Right P) : Right P' := by
  refine ⟨(h2.map _).nodup_iff.mp r.dst, fun e he => fun z => r.res e (h2.mem_iff.mpr he) ((h5 _).mp z), fun e he p hp => ?_, fun e he => ?_⟩
  · rw [seen_perm o h1 h2]
    exact r.use e (h3.mem_iff.mpr he) p (by rw [← lk_perm o.bnd h2]; exact hp)
  · rw [seen_perm o h1 h2]
    exact r.out e (h4.mem_iff.mpr he)
end DL
namespace DL
open PySem PySem.Spec PyProof.Rows L2
theorem lk_mapv {α β : Type} (h : Str → α → β) (b : Str) : ∀ t : Tab α, lk (t.map fun e => (e.1, h e.1 e.2)) b = (lk t b).map (h b)
  | [] => rfl
  | e :: r => by
    rw [List.map_cons, lk_cons, lk_cons, lk_mapv h b r]
    by_cases q : e.1 = b
    · rw [if_pos q, if_pos q, q]; rfl
    · rw [if_neg q, if_neg q]
end DL
namespace DL
open PySem PySem.Spec PyProof.Rows L2
def outT {α : Type} (t : Tab α) (u : Str) : Tab α := t.filter fun e => !decide (e.1 = u)
theorem outT_sub {α : Type} (t : Tab α) (u : Str) : (outT t u).Sublist t := List.filter_sublist
theorem keys_outT {α : Type} (t : Tab α) (u : Str) : keysN (outT t u) = (keysN t).filter fun k => !decide (k = u) := by
  unfold outT keysN
  rw [List.filter_map]
  rfl
end DL
namespace DL
open PySem PySem.Spec PyProof.Rows L2
def drF (p1 p2 p3 p4 : Addr) (rs : List Str) : List (Str × D) := [("scopes", .ref p1), ("bindings", .ref p2), ("uses", .ref p3), ("outer", .ref p4), ("reserved", .tup (rs.map .str))]
structure DrM (m0 m : Mem) (d dx p1 p2 p3 p4 : Addr) (P : Parts) : Prop where
  keep : ∀ a o, m0 a = some o → m a = some o
  hd : m d = some (.ins "Draft" dx (drF p1 p2 p3 p4 P.rs))
  h1 : m p1 = some (.dic (scK P.sc))
  h2 : m p2 = some (.dic (tbK P.bn))
  h3 : m p3 = some (.dic (tbK P.us))
  h4 : m p4 = some (.dic (tbK P.ou))
  fd : m0 d = none
  f1 : m0 p1 = none
  f2 : m0 p2 = none
  f3 : m0 p3 = none
  f4 : m0 p4 = none
  nd : [d, p1, p2, p3, p4].Nodup
theorem DrM.ne {m0 m : Mem} {d dx p1 p2 p3 p4 : Addr} {P : Parts} (h : DrM m0 m d dx p1 p2 p3 p4 P) : (d ≠ p1 ∧ d ≠ p2 ∧ d ≠ p3 ∧ d ≠ p4) ∧ (p1 ≠ p2 ∧ p1 ≠ p3 ∧ p1 ≠ p4) ∧ (p2 ≠ p3 ∧ p2 ≠ p4) ∧ p3 ≠ p4 := by
  have := h.nd
  simp only [List.nodup_cons, List.mem_cons, List.not_mem_nil, or_false, not_or] at this
  obtain ⟨⟨a, b, c, e⟩, ⟨f, g, i⟩, ⟨j, k⟩, l, _⟩ := this
  exact ⟨⟨a, b, c, e⟩, ⟨f, g, i⟩, ⟨j, k⟩, l⟩
def DrAt (m0 : Mem) (d : Addr) (P : Parts) (w : W) : Prop := ∃ dx p1 p2 p3 p4, DrM m0 w.m d dx p1 p2 p3 p4 P
def DrTo (m0 : Mem) (d : Addr) (P : Parts) (w : W) (Q : DK) : Prop := ∀ w', DrAt m0 d P w' → w'.n = w.n → w'.e = w.e → Q (.bl true) w'
theorem drop_mK {α : Type} (f : α → D) (s : Str) : ∀ t : Tab α, dropD (mK f t) (.inr s) = mK f (outT t s)
  | [] => rfl
  | e :: r => by
    have ih := drop_mK f s r
    unfold dropD outT mK at ih ⊢
    rw [List.map_cons, List.filter_cons, List.filter_cons]
    by_cases h : e.1 = s
    · rw [if_neg (by simp [h]), if_neg (by simp [h])]
      exact ih
    · rw [if_pos (by simp [h]), if_pos (by simp [h]), List.map_cons, ih]
end DL
namespace DL
open PySem PySem.Spec PyProof.Rows L2
def inWay (P : Parts) (x t : Str) : Bool := match lk P.bn x with
  | some b => decide (b.1 ∈ way P.sc t)
  | none => false
def addUN (P : Parts) (kd s t x : Str) : Option Parts :=
  if wordS s = true ∧ t ∈ keysN P.sc ∧ s ∉ keysN P.us ∧ s ∉ keysN P.ou then
    (if kd = "outer" then (if wordS x = true then some { P with ou := putN P.ou s (t, x) } else none)
    else if inWay P x t = true then some { P with us := putN P.us s (t, x) } else none)
  else none
def addSN (P : Parts) (s t : Str) : Option Parts := if wordS s = true ∧ t ∈ keysN P.sc ∧ s ∉ keysN P.sc then some { P with sc := putN P.sc s (some t) } else none
def addBN (P : Parts) (s t x : Str) : Option Parts := if wordS s = true ∧ wordS x = true ∧ t ∈ keysN P.sc ∧ s ∉ keysN P.bn then some { P with bn := putN P.bn s (t, x) } else none
def wordN (P : Parts) (s x : Str) : Option Parts := match lk P.bn s with
  | some q => if wordS x = true then some { P with bn := putN P.bn s (q.1, x) } else none
  | none => none
def cutN (P : Parts) (s : Str) : Option Parts := if s ∈ keysN P.us ∨ s ∈ keysN P.ou then some { P with us := outT P.us s, ou := outT P.ou s } else none
def dropN (P : Parts) (s : Str) : Option Parts := if s ∈ keysN P.bn ∧ ∀ e ∈ P.us, e.2.2 ≠ s then some { P with bn := outT P.bn s } else none
def lftN (t : Tb) (s y : Str) : Tb := t.map fun e => (e.1, (if e.2.1 = s then y else e.2.1, e.2.2))
def upT (t : Sc) (s y : Str) : Sc := (outT t s).map fun e => (e.1, if e.2 = some s then some y else e.2)
def inlN (P : Parts) (s y : Str) : Parts := { P with sc := upT P.sc s y, bn := lftN P.bn s y, us := lftN P.us s y, ou := lftN P.ou s y }
def inlineN (P : Parts) (s : Str) : Option Parts := match lk P.sc s with
  | some (some y) => some (inlN P s y)
  | _ => none
def movP (P : Parts) (s t : Str) : Parts := { P with sc := putN P.sc s (some t) }
def usesOk (P : Parts) : Bool := P.us.all fun e => inWay P e.2.2 e.2.1
def moveN (P : Parts) (s t : Str) : Option Parts := match lk P.sc s with
  | some (some _) => if t ∈ keysN P.sc ∧ s ∉ way P.sc t ∧ usesOk (movP P s t) = true then some (movP P s t) else none
  | _ => none
def stepS (P : Parts) (k : Str) : List Str → Option Parts
  | [a] => if k = "cut" then cutN P a else if k = "drop" then dropN P a else if k = "inline" then inlineN P a else none
  | [a, b] => if k = "scope" then addSN P a b else if k = "word" then wordN P a b else if k = "move" then moveN P a b else none
  | [a, b, c] => if k = "bind" then addBN P a b c else if k = "use" ∨ k = "outer" then addUN P k a b c else none
  | _ => none
def editN (P : Parts) : D → Option Parts
  | .tup (.str k :: as) => (strsOf as).bind (stepS P k)
  | _ => none
def runN : Parts → List D → Nat → Parts ⊕ Nat
  | P, [], _ => .inl P
  | P, e :: r, i => match editN P e with
    | some P' => runN P' r (i + 1)
    | none => .inr i
theorem wayN_enough {sc : Sc} {r : Str} (hr : lk sc r = some none) : ∀ {pre : List Str} {N : Nat} {s : Str}, wayN sc N s = pre ++ [r] → ∀ n, pre.length ≤ n → wayN sc n s = pre ++ [r]
  | [], N, s, h, n, _ => by
    have hs : s = r := by
      cases N with
      | zero => unfold wayN at h; simpa using h
      | succ N => unfold wayN at h; exact (List.cons.inj h).1
    subst hs
    cases n with
    | zero => rfl
    | succ n => unfold wayN; rw [hr]; rfl
  | a :: pre, N, s, h, n, hn => by
    obtain ⟨n, rfl⟩ : ∃ n', n = n' + 1 := ⟨n - 1, by simp at hn; omega⟩
    cases N with
    | zero =>
      unfold wayN at h
      have := congrArg List.length h
      simp at this
    | succ N =>
      unfold wayN at h ⊢
      have h := List.cons.inj h
      obtain rfl := h.1
      cases e : lk sc s with
      | none =>
        rw [e] at h
        have := congrArg List.length h.2
        simp at this
      | some p =>
        rw [e] at h
        cases p with
        | none =>
          have := congrArg List.length h.2
          simp at this
        | some y =>
          have h2 : wayN sc N y = pre ++ [r] := h.2
          show s :: wayN sc n y = _
          rw [wayN_enough hr h2 n (by simp at hn; omega)]
          rfl
theorem ScOk.of_rank {sc : Sc} (nd : (keysN sc).Nodup) (wd : ∀ s ∈ keysN sc, wordS s = true) (cl : ∀ s p, lk sc s = some (some p) → p ∈ keysN sc) {r : Str} (hr : lk sc r = some none) (hu : ∀ s, lk sc s = some none → s = r)
    (ρ : Str → Nat) (hρ : ∀ s p, lk sc s = some (some p) → ρ p < ρ s) : ScOk sc := by
  refine ⟨nd, wd, cl, r, hr, ?_⟩
  have key : ∀ (n : Nat) (s : Str), s ∈ keysN sc → ρ s < n → ∃ pre N, wayN sc N s = pre ++ [r] ∧ (pre ++ [r]).Nodup ∧ (∀ x ∈ pre ++ [r], x ∈ keysN sc ∧ ρ x ≤ ρ s) := by
    intro n
    induction n with
    | zero => intro s _ h; omega
    | succ n ih =>
      intro s hs hn
      obtain ⟨a, ha⟩ := lk_some hs
      cases a with
      | none =>
        have := hu s ha
        subst this
        refine ⟨[], 0, rfl, by simp, fun x hx => ?_⟩
        have hx : x ∈ [s] := hx
        rw [List.mem_singleton.mp hx]
        exact ⟨hs, Nat.le_refl _⟩
      | some p =>
        have hp := hρ s p ha
        obtain ⟨pre, N, e, nd2, h2⟩ := ih p (cl s p ha) (by omega)
        refine ⟨s :: pre, N + 1, ?_, ?_, fun x hx => ?_⟩
        · show s :: (match lk sc s with | some (some y) => wayN sc N y | _ => []) = _
          rw [ha]
          show s :: wayN sc N p = _
          rw [e]; rfl
        · show (s :: (pre ++ [r])).Nodup
          refine List.nodup_cons.mpr ⟨fun hm => ?_, nd2⟩
          have := (h2 s hm).2
          omega
        · rcases List.mem_cons.mp (show x ∈ s :: (pre ++ [r]) from hx) with rfl | hx
          · exact ⟨hs, Nat.le_refl _⟩
          · exact ⟨(h2 x hx).1, by have := (h2 x hx).2; omega⟩
  intro s hs
  obtain ⟨pre, N, e, nd2, h2⟩ := key (ρ s + 1) s hs (by omega)
  refine ⟨pre, wayN_enough hr e sc.length ?_⟩
  have := len_sub nd2 (fun x hx => (h2 x hx).1)
  rw [len_keysN] at this
  simp at this
  omega
theorem ScOk.rank {sc : Sc} (o : ScOk sc) : ∀ s p, lk sc s = some (some p) → (way sc p).length < (way sc s).length := fun s p h => by
  rw [o.way_cons h]; simp
theorem addS_ok {sc : Sc} (o : ScOk sc) {s t : Str} (hs : wordS s = true) (ht : t ∈ keysN sc) (hn : s ∉ keysN sc) : ScOk (putN sc s (some t)) ∧ ∀ u ∈ keysN sc, way (putN sc s (some t)) u = way sc u := by
  obtain ⟨r, hr, hw, hu⟩ := o.root_eq
  have ks : ∀ u, u ∈ keysN (putN sc s (some t)) ↔ u ∈ keysN sc ∨ u = s := fun u => by
    rw [keysN_putN, if_neg hn, List.mem_append, List.mem_singleton]
  have ne : ∀ {u}, u ∈ keysN sc → s ≠ u := fun {u} h z => hn (z ▸ h)
  have lo : ∀ u ∈ keysN sc, lk (putN sc s (some t)) u = lk sc u := fun u h => by rw [lk_putN, if_neg (ne h)]
  have o' : ScOk (putN sc s (some t)) := by
    refine .of_rank (nodup_putN o.nd _ _) (fun u h => ?_) (fun u p h => ?_) (r := r) (by rw [lo r (lk_key hr)]; exact hr) (fun u h => ?_) (fun u => if u = s then (way sc t).length + 1 else (way sc u).length) (fun u p h => ?_)
    · rcases (ks u).mp h with h | rfl
      · exact o.wd u h
      · exact hs
    · rw [lk_putN] at h
      split at h
      · cases h; exact (ks _).mpr (.inl ht)
      · exact (ks _).mpr (.inl (o.cl u p h))
    · rw [lk_putN] at h
      split at h
      · cases h
      · exact hu u h
    · rw [lk_putN] at h
      split at h
      · rename_i e
        cases h
        rw [if_neg (fun z => ne ht z.symm), if_pos e.symm]
        omega
      · rename_i e
        rw [if_neg (fun z => ne (o.cl u p h) z.symm), if_neg (fun z => e z.symm)]
        exact o.rank u p h
  refine ⟨o', o.ind (fun u h => ?_) (fun u p h ih => ?_)⟩
  · rw [o'.way_root (by rw [lo u (lk_key h)]; exact h), o.way_root h]
  · rw [o'.way_cons (by rw [lo u (lk_key h)]; exact h), o.way_cons h, ih]
theorem DrTo.inn {m0 : Mem} {d : Addr} {P : Parts} {w : W} {Q : DK} {env : En} (h : DrTo m0 d P w Q) : DrTo m0 d P (w.inn env) fun r w3 => Q r (w3.as w) := fun w' ha hn _ => h (w'.as w) ha hn rfl
def Sz (P : Parts) (n : Nat) : Prop := P.sc.length ≤ n ∧ P.bn.length ≤ n ∧ P.us.length ≤ n ∧ P.ou.length ≤ n
theorem Sz.mono {P : Parts} {n m : Nat} (h : Sz P n) (k : n ≤ m) : Sz P m := ⟨by have := h.1; omega, by have := h.2.1; omega, by have := h.2.2.1; omega, by have := h.2.2.2; omega⟩
theorem len_putN {α : Type} (t : Tab α) (s : Str) (a : α) : (putN t s a).length ≤ t.length + 1 := by
  unfold putN
  split
  · rw [List.length_map]; omega
  · rw [List.length_append]; simp
theorem WF.of {P : Parts} (sc : ScOk P.sc) (bnd : (keysN P.bn).Nodup) (bwd : ∀ e ∈ P.bn, wordS e.1 = true ∧ wordS e.2.2 = true ∧ e.2.1 ∈ keysN P.sc) (usd : (keysN P.us).Nodup)
    (uwd : ∀ e ∈ P.us, wordS e.1 = true ∧ e.2.1 ∈ keysN P.sc ∧ ∃ b, lk P.bn e.2.2 = some b ∧ b.1 ∈ way P.sc e.2.1) (oud : (keysN P.ou).Nodup) (owd : ∀ e ∈ P.ou, wordS e.1 = true ∧ wordS e.2.2 = true ∧ e.2.1 ∈ keysN P.sc)
    (dis : ∀ s ∈ keysN P.ou, s ∉ keysN P.us) (rwd : ∀ s ∈ P.rs, wordS s = true) {n : Nat} (z : Sz P n) (hn : n ≤ 1000) (hr : P.rs.length ≤ 1000) : WF P :=
  ⟨sc, bnd, bwd, usd, uwd, oud, owd, dis, rwd, by obtain ⟨z1, z2, z3, z4⟩ := z; exact ⟨by omega, by omega, by omega, by omega, hr⟩⟩
theorem inWay_iff {P : Parts} {x t : Str} : inWay P x t = true ↔ ∃ b, lk P.bn x = some b ∧ b.1 ∈ way P.sc t := by
  unfold inWay
  cases e : lk P.bn x with
  | none => exact ⟨fun h => (by cases h), fun ⟨b, h, _⟩ => (by cases h)⟩
  | some b => exact ⟨fun h => ⟨b, rfl, of_decide_eq_true h⟩, fun ⟨b2, h, h2⟩ => by cases h; exact decide_eq_true h2⟩
section
variable {P P' : Parts} {n : Nat} (o : WF P) (z : Sz P n) (hn : n < 1000)
include o z hn
theorem addU_wf {kd s t x : Str} (h : addUN P kd s t x = some P') : WF P' ∧ Sz P' (n + 1) ∧ P'.rs = P.rs := by
  unfold addUN at h
  split at h
  · rename_i c
    obtain ⟨c1, c2, c3, c4⟩ := c
    split at h
    · split at h
      · rename_i c5
        cases h
        have z' : Sz { P with ou := putN P.ou s (t, x) } (n + 1) := ⟨by have := z.1; show P.sc.length ≤ _; omega, by have := z.2.1; show P.bn.length ≤ _; omega, by have := z.2.2.1; show P.us.length ≤ _; omega, by have := z.2.2.2; have := len_putN P.ou s (t, x); show (putN P.ou s (t, x)).length ≤ _; omega⟩
        refine ⟨.of o.sc o.bnd o.bwd o.usd o.uwd (nodup_putN o.oud _ _) (fun e he => ?_) (fun u hu => ?_) o.rwd z' (by omega) o.sm.2.2.2.2, z', rfl⟩
        · rcases mem_putN he with he | rfl
          · exact o.owd e he
          · exact ⟨c1, c5, c2⟩
        · rcases key_putN hu with hu | rfl
          · exact o.dis u hu
          · exact c3
      · cases h
    · split at h
      · rename_i c5
        cases h
        have z' : Sz { P with us := putN P.us s (t, x) } (n + 1) := ⟨by have := z.1; show P.sc.length ≤ _; omega, by have := z.2.1; show P.bn.length ≤ _; omega, by have := z.2.2.1; have := len_putN P.us s (t, x); show (putN P.us s (t, x)).length ≤ _; omega, by have := z.2.2.2; show P.ou.length ≤ _; omega⟩
        refine ⟨.of o.sc o.bnd o.bwd (nodup_putN o.usd _ _) (fun e he => ?_) o.oud o.owd (fun u hu hv => ?_) o.rwd z' (by omega) o.sm.2.2.2.2, z', rfl⟩
        · rcases mem_putN he with he | rfl
          · exact o.uwd e he
          · exact ⟨c1, c2, inWay_iff.mp c5⟩
        · rcases key_putN hv with hv | rfl
          · exact o.dis u hu hv
          · exact c4 hu
      · cases h
  · cases h
theorem addS_wf {s t : Str} (h : addSN P s t = some P') : WF P' ∧ Sz P' (n + 1) ∧ P'.rs = P.rs := by
  unfold addSN at h
  split at h
  · rename_i c
    obtain ⟨c1, c2, c3⟩ := c
    cases h
    obtain ⟨osc, hw⟩ := addS_ok o.sc c1 c2 c3
    have hk : ∀ u, u ∈ keysN P.sc → u ∈ keysN (putN P.sc s (some t)) := fun u h => by rw [keysN_putN, if_neg c3]; exact List.mem_append_left _ h
    have z' : Sz { P with sc := putN P.sc s (some t) } (n + 1) := ⟨by have := z.1; have := len_putN P.sc s (some t); show (putN P.sc s (some t)).length ≤ _; omega, by have := z.2.1; show P.bn.length ≤ _; omega, by have := z.2.2.1; show P.us.length ≤ _; omega, by have := z.2.2.2; show P.ou.length ≤ _; omega⟩
    refine ⟨.of osc o.bnd (fun e he => ?_) o.usd (fun e he => ?_) o.oud (fun e he => ?_) o.dis o.rwd z' (by omega) o.sm.2.2.2.2, z', rfl⟩
    · obtain ⟨q1, q2, q3⟩ := o.bwd e he
      exact ⟨q1, q2, hk _ q3⟩
    · obtain ⟨q1, q2, b, q3, q4⟩ := o.uwd e he
      exact ⟨q1, hk _ q2, b, q3, by rw [hw _ q2]; exact q4⟩
    · obtain ⟨q1, q2, q3⟩ := o.owd e he
      exact ⟨q1, q2, hk _ q3⟩
  · cases h
theorem addB_wf {s t x : Str} (h : addBN P s t x = some P') : WF P' ∧ Sz P' (n + 1) ∧ P'.rs = P.rs := by
  unfold addBN at h
  split at h
  · rename_i c
    obtain ⟨c1, c2, c3, c4⟩ := c
    cases h
    have z' : Sz { P with bn := putN P.bn s (t, x) } (n + 1) := ⟨by have := z.1; show P.sc.length ≤ _; omega, by have := z.2.1; have := len_putN P.bn s (t, x); show (putN P.bn s (t, x)).length ≤ _; omega, by have := z.2.2.1; show P.us.length ≤ _; omega, by have := z.2.2.2; show P.ou.length ≤ _; omega⟩
    refine ⟨.of o.sc (nodup_putN o.bnd _ _) (fun e he => ?_) o.usd (fun e he => ?_) o.oud o.owd o.dis o.rwd z' (by omega) o.sm.2.2.2.2, z', rfl⟩
    · rcases mem_putN he with he | rfl
      · exact o.bwd e he
      · exact ⟨c1, c2, c3⟩
    · obtain ⟨q1, q2, b, q3, q4⟩ := o.uwd e he
      exact ⟨q1, q2, b, by show lk (putN P.bn s (t, x)) _ = _; rw [lk_putN, if_neg (fun q => c4 (by rw [q]; exact lk_key q3))]; exact q3, q4⟩
  · cases h
end
structure PP (P Q : Parts) : Prop where
  sc : P.sc.Perm Q.sc
  bn : P.bn.Perm Q.bn
  us : P.us.Perm Q.us
  ou : P.ou.Perm Q.ou
  rs : ∀ s, s ∈ P.rs ↔ s ∈ Q.rs
theorem PP.rfl {P : Parts} : PP P P := ⟨.refl _, .refl _, .refl _, .refl _, fun _ => Iff.rfl⟩
theorem PP.symm {P Q : Parts} (h : PP P Q) : PP Q P := ⟨h.sc.symm, h.bn.symm, h.us.symm, h.ou.symm, fun s => (h.rs s).symm⟩
theorem PP.trans {P Q R : Parts} (h : PP P Q) (k : PP Q R) : PP P R := ⟨h.sc.trans k.sc, h.bn.trans k.bn, h.us.trans k.us, h.ou.trans k.ou, fun s => (h.rs s).trans (k.rs s)⟩
theorem PP.sort (P : Parts) : PP P (sortP P) := ⟨(ascN_perm _).symm, (ascN_perm _).symm, (ascN_perm _).symm, (ascN_perm _).symm, fun s => by show _ ↔ s ∈ sortT (nubT P.rs); rw [mem_sortT, nubT_mem]⟩
theorem PP.eq {P Q : Parts} (o : WF P) (h : PP P Q) : sortP Q = sortP P := by
  unfold sortP
  rw [asc_eq o.sc.nd h.sc, asc_eq o.bnd h.bn, asc_eq o.usd h.us, asc_eq o.oud h.ou, sort_nub (fun s => (h.rs s).symm)]
theorem PP.wf {P Q : Parts} (o : WF P) (h : PP P Q) (hr : Q.rs.length ≤ 1000) : WF Q := by
  have hk : ∀ s, s ∈ keysN P.sc ↔ s ∈ keysN Q.sc := fun s => (perm_keys h.sc).mem_iff
  refine ⟨o.sc.perm h.sc, (perm_keys h.bn).nodup_iff.mp o.bnd, fun e he => ?_, (perm_keys h.us).nodup_iff.mp o.usd, fun e he => ?_, (perm_keys h.ou).nodup_iff.mp o.oud, fun e he => ?_, fun s hs hv => o.dis s ((perm_keys h.ou).mem_iff.mpr hs) ((perm_keys h.us).mem_iff.mpr hv), fun s hs => o.rwd s ((h.rs s).mpr hs), ?_⟩
  · obtain ⟨q1, q2, q3⟩ := o.bwd e (h.bn.mem_iff.mpr he)
    exact ⟨q1, q2, (hk _).mp q3⟩
  · obtain ⟨q1, q2, b, q3, q4⟩ := o.uwd e (h.us.mem_iff.mpr he)
    exact ⟨q1, (hk _).mp q2, b, by rw [lk_perm o.bnd h.bn]; exact q3, by rw [way_perm o.sc.nd h.sc]; exact q4⟩
  · obtain ⟨q1, q2, q3⟩ := o.owd e (h.ou.mem_iff.mpr he)
    exact ⟨q1, q2, (hk _).mp q3⟩
  · obtain ⟨z1, z2, z3, z4, _⟩ := o.sm
    exact ⟨by rw [← h.sc.length_eq]; exact z1, by rw [← h.bn.length_eq]; exact z2, by rw [← h.us.length_eq]; exact z3, by rw [← h.ou.length_eq]; exact z4, hr⟩
theorem PP.sz {P Q : Parts} {n : Nat} (h : PP P Q) (z : Sz P n) : Sz Q n := by
  obtain ⟨z1, z2, z3, z4⟩ := z
  exact ⟨by rw [← h.sc.length_eq]; exact z1, by rw [← h.bn.length_eq]; exact z2, by rw [← h.us.length_eq]; exact z3, by rw [← h.ou.length_eq]; exact z4⟩
section
variable {P Q P' : Parts} (o : WF P) (p : PP P Q)
include o p
theorem PP.way (s : Str) : way Q.sc s = DL.way P.sc s := way_perm o.sc.nd p.sc s
theorem PP.inWay (x t : Str) : inWay Q x t = DL.inWay P x t := by
  unfold DL.inWay
  rw [lk_perm o.bnd p.bn]
  cases lk P.bn x with
  | none => rfl
  | some b => show decide (b.1 ∈ DL.way Q.sc t) = decide (b.1 ∈ DL.way P.sc t); rw [p.way o]
end
end DL
namespace DL
open PySem PySem.Spec PyProof.Rows L2
def rdT (q1 q2 q3 : Addr) : List (Key × D) := [(.inr "bind", .ref q1), (.inr "use", .ref q2), (.inr "outer", .ref q3)]
def rdF (k : Nat) (p q1 q2 q3 r : Addr) : List (Str × D) := [("kind", .int ((k : Nat) : Int)), ("scopes", .ref p), ("tables", .dic (rdT q1 q2 q3)), ("reserved", .ref r)]
structure RdM (m0 m : Mem) (d dx p q1 q2 q3 r : Addr) (k : Nat) (P : Parts) : Prop where
  keep : ∀ a o, m0 a = some o → m a = some o
  hd : m d = some (.ins "Reader" dx (rdF k p q1 q2 q3 r))
  h1 : m p = some (.dic (scK P.sc))
  h2 : m q1 = some (.dic (tbK P.bn))
  h3 : m q2 = some (.dic (tbK P.us))
  h4 : m q3 = some (.dic (tbK P.ou))
  h5 : m r = some (.lst (P.rs.map .str))
  fr : ∀ a ∈ [d, p, q1, q2, q3, r], m0 a = none
  nd : [d, p, q1, q2, q3, r].Nodup
theorem RdM.ne {m0 m : Mem} {d dx p q1 q2 q3 r : Addr} {k : Nat} {P : Parts} (h : RdM m0 m d dx p q1 q2 q3 r k P) :
    (d ≠ p ∧ d ≠ q1 ∧ d ≠ q2 ∧ d ≠ q3 ∧ d ≠ r) ∧ (p ≠ q1 ∧ p ≠ q2 ∧ p ≠ q3 ∧ p ≠ r) ∧ (q1 ≠ q2 ∧ q1 ≠ q3 ∧ q1 ≠ r) ∧ (q2 ≠ q3 ∧ q2 ≠ r) ∧ q3 ≠ r := by
  have := h.nd
  simp only [List.nodup_cons, List.mem_cons, List.not_mem_nil, or_false, not_or] at this
  obtain ⟨a, b, c, e, f, _⟩ := this
  exact ⟨a, b, c, e, f⟩
theorem rd_keep {m0 m : Mem} {p : Addr} {o : MO} (h : ∀ a o, m0 a = some o → m a = some o) (f : m0 p = none) : ∀ a o', m0 a = some o' → updM m p o a = some o' := fun a o' ha => by
  have : a ≠ p := fun z => by rw [z, f] at ha; cases ha
  rw [updM_ne this]
  exact h a o' ha
section
variable {m0 m : Mem} {d dx p q1 q2 q3 r : Addr} {k : Nat} {P : Parts}
theorem RdM.putK (h : RdM m0 m d dx p q1 q2 q3 r k P) (j : Nat) : RdM m0 (updM m d (.ins "Reader" dx (rdF j p q1 q2 q3 r))) d dx p q1 q2 q3 r j P := by
  obtain ⟨⟨n1, n2, n3, n4, n5⟩, ⟨n6, n7, n8, n9⟩, ⟨n10, n11, n12⟩, ⟨n13, n14⟩, n15⟩ := h.ne
  exact ⟨rd_keep h.keep (h.fr d (by simp)), updM_same, (updM_ne n1.symm).trans h.h1, (updM_ne n2.symm).trans h.h2, (updM_ne n3.symm).trans h.h3, (updM_ne n4.symm).trans h.h4, (updM_ne n5.symm).trans h.h5, h.fr, h.nd⟩
end
def lastN (xs : List Str) : Option Str := xs[xs.length - 1]?
def aftN (xs : List Str) (x : Str) : Bool := match lastN xs with
  | some y => !leT x y
  | none => true
def rdScope (P : Parts) (s p : Str) : Option Parts :=
  if P.sc = [] then (if p = "-" then some { P with sc := [(s, none)] } else none)
  else if s ∈ keysN P.sc ∨ p ∉ keysN P.sc then none
  else if (((keysN P.sc).drop ((keysN P.sc).idxOf p + 1)).any fun o => !leT o s) = true then none
  else some { P with sc := P.sc ++ [(s, some p)] }
def rdWord (P : Parts) (x : Str) : Option Parts := if aftN P.rs x = true then some { P with rs := P.rs ++ [x] } else none
theorem isKey_mK' {α : Type} (f : α → D) (t : Tab α) (s : Str) : (valD (mK f t) (.inr s)).isSome = decide (s ∈ keysN t) := isKey_mK f
def RdOk (P : Parts) : Prop := WF P ∨ (P.sc = [] ∧ P.bn = [] ∧ P.us = [] ∧ P.ou = [] ∧ P.rs = [])
section
variable {k : Nat} {P : Parts} {a b c : Str}
end
theorem RdOk.nd {P : Parts} (h : RdOk P) : (keysN P.sc).Nodup := by
  rcases h with h | h
  · exact h.sc.nd
  · rw [h.1]; exact .nil
theorem RdOk.wf {P : Parts} (h : RdOk P) (hs : P.sc ≠ []) : WF P := h.resolve_right fun z => hs z.1
def rd0 : Parts := ⟨[], [], [], [], []⟩
def AscK (xs : List Str) : Prop := xs.Pairwise fun a b => leT b a = false
structure RdI (k : Nat) (P : Parts) (n : Nat) : Prop where
  ok : RdOk P
  sz : Sz P n
  rs : P.rs.length ≤ n
  b : AscK (keysN P.bn)
  u : AscK (keysN P.us)
  o : AscK (keysN P.ou)
  e : k < 3 → P.ou = []
theorem RdI.zero : RdI 0 rd0 0 := ⟨.inr ⟨rfl, rfl, rfl, rfl, rfl⟩, ⟨Nat.le_refl _, Nat.le_refl _, Nat.le_refl _, Nat.le_refl _⟩, Nat.le_refl _, .nil, .nil, .nil, fun _ => rfl⟩
section
variable {k : Nat} {P P' : Parts} {n : Nat}
theorem RdI.scope {s t : Str} (h : RdI 0 P n) (hn : n < 1000) (hs : wordS s = true) (hp : rdScope P s t = some P') : RdI 0 P' (n + 1) := by
  unfold rdScope at hp
  split at hp
  · rename_i c
    split at hp
    · cases hp
      obtain ⟨_, h2, h3, h4, h5⟩ : P.sc = [] ∧ P.bn = [] ∧ P.us = [] ∧ P.ou = [] ∧ P.rs = [] := by
        rcases h.ok with w | w
        · obtain ⟨r, hr, _⟩ := w.sc.rt
          rw [c] at hr; cases hr
        · exact w
      refine ⟨.inl ?_, ?_, by have := h.rs; show P.rs.length ≤ n + 1; omega, h.b, h.u, h.o, h.e⟩
      · have z : Sz { P with sc := [(s, none)] } 1 := ⟨Nat.le_refl _, by show P.bn.length ≤ 1; rw [h2]; decide, by show P.us.length ≤ 1; rw [h3]; decide, by show P.ou.length ≤ 1; rw [h4]; decide⟩
        refine WF.of ((OrdSc.root s).ok fun u hu => by have hu : u ∈ [s] := hu; rw [List.mem_singleton.mp hu]; exact hs) (by show (keysN P.bn).Nodup; rw [h2]; exact .nil) (fun e he => ?_) (by show (keysN P.us).Nodup; rw [h3]; exact .nil) (fun e he => ?_) (by show (keysN P.ou).Nodup; rw [h4]; exact .nil) (fun e he => ?_) (fun u hu => ?_) (fun u hu => ?_) z (by decide) (by show P.rs.length ≤ 1000; rw [h5]; decide)
        · have he : e ∈ P.bn := he; rw [h2] at he; cases he
        · have he : e ∈ P.us := he; rw [h3] at he; cases he
        · have he : e ∈ P.ou := he; rw [h4] at he; cases he
        · have hu : u ∈ keysN P.ou := hu; rw [h4] at hu; cases hu
        · have hu : u ∈ P.rs := hu; rw [h5] at hu; cases hu
      · exact ⟨by show 1 ≤ n + 1; omega, by have := h.sz.2.1; show P.bn.length ≤ _; omega, by have := h.sz.2.2.1; show P.us.length ≤ _; omega, by have := h.sz.2.2.2; show P.ou.length ≤ _; omega⟩
    · cases hp
  · rename_i c
    split at hp
    · cases hp
    · rename_i c2
      split at hp
      · cases hp
      · cases hp
        have c3 : s ∉ keysN P.sc := fun z => c2 (.inl z)
        have c4 : t ∈ keysN P.sc := Classical.byContradiction fun z => c2 (.inr z)
        have wf := h.ok.wf c
        have ea : addSN P s t = some { P with sc := P.sc ++ [(s, some t)] } := by
          unfold addSN
          rw [if_pos ⟨hs, c4, c3⟩, putN_new c3]
        obtain ⟨o, z, _⟩ := addS_wf wf h.sz hn ea
        exact ⟨.inl o, z, by have := h.rs; show P.rs.length ≤ n + 1; omega, h.b, h.u, h.o, h.e⟩
end
section
variable {k : Nat} {P P' : Parts} {n : Nat}
theorem RdI.word {x : Str} (h : RdI k P n) (hn : n < 1000) (hx : wordS x = true) (hsc : P.sc ≠ []) (hp : rdWord P x = some P') : RdI 4 P' (n + 1) := by
  unfold rdWord at hp
  split at hp
  · cases hp
    have wf := h.ok.wf hsc
    have rs : (P.rs ++ [x]).length ≤ n + 1 := by have := h.rs; simp; omega
    refine ⟨.inl ?_, h.sz.mono (by omega), rs, h.b, h.u, h.o, fun z => absurd z (by decide)⟩
    refine WF.of wf.sc wf.bnd wf.bwd wf.usd wf.uwd wf.oud wf.owd wf.dis (fun s hs => ?_) (h.sz.mono (Nat.le_succ n)) (by omega) (by show (P.rs ++ [x]).length ≤ 1000; omega)
    rcases List.mem_append.mp hs with hs | hs
    · exact wf.rwd s hs
    · rw [List.mem_singleton.mp hs]; exact hx
  · cases hp
end
end DL
namespace DL
open PySem PySem.Spec PyProof.Rows L2
end DL
namespace DL
open PySem PySem.Spec PyProof.Rows L2
theorem maps_of {α : Type} (f : α → D) (pr : α → Prop) : ∀ {l : List D}, (∀ x ∈ l, ∃ a, x = f a ∧ pr a) → ∃ as : List α, l = as.map f ∧ ∀ a ∈ as, pr a
  | [], _ => ⟨[], rfl, fun _ h => nomatch h⟩
  | x :: r, h => by
    obtain ⟨a, e, p⟩ := h x List.mem_cons_self
    obtain ⟨as, e2, p2⟩ := maps_of f pr (l := r) fun y hy => h y (List.mem_cons_of_mem _ hy)
    refine ⟨a :: as, by rw [e, e2]; rfl, fun y hy => ?_⟩
    rcases List.mem_cons.mp hy with rfl | hy
    · exact p
    · exact p2 y hy
end DL
namespace DL
open PySem PySem.Spec PyProof.Rows L2
theorem key_word {k : Key} (h : isWord (kD k) = true) : ∃ s, k = .inr s ∧ wordS s = true := by
  cases k with
  | inl i => cases h
  | inr s => exact ⟨s, rfl, h⟩
theorem mem_keysD {kvs : List (Key × D)} {kv : Key × D} (h : kv ∈ kvs) : kD kv.1 ∈ dkeys kvs ∧ kv.2 ∈ dvals kvs := ⟨List.mem_map.mpr ⟨kv, h, rfl⟩, List.mem_map.mpr ⟨kv, h, rfl⟩⟩
theorem tabs_of {α : Type} (f : α → D) (pr : Str → α → Prop) : ∀ {kvs : List (Key × D)}, (∀ kv ∈ kvs, ∃ s a, kv = (.inr s, f a) ∧ pr s a) → ∃ t : Tab α, kvs = mK f t ∧ ∀ e ∈ t, pr e.1 e.2
  | [], _ => ⟨[], rfl, fun _ h => nomatch h⟩
  | kv :: r, h => by
    obtain ⟨s, a, e, p⟩ := h kv List.mem_cons_self
    obtain ⟨t, e2, p2⟩ := tabs_of f pr (kvs := r) fun x hx => h x (List.mem_cons_of_mem _ hx)
    refine ⟨(s, a) :: t, by rw [e, e2]; rfl, fun x hx => ?_⟩
    rcases List.mem_cons.mp hx with rfl | hx
    · exact p
    · exact p2 x hx
theorem nodup_tab {α : Type} {f : α → D} {t : Tab α} (h : ((mK f t).map (·.1)).Nodup) : (keysN t).Nodup := by
  rw [mK_keys] at h
  exact (List.pairwise_map.mp h).imp fun h1 h2 => h1 (by rw [h2])
theorem tree_of {kvs : List (Key × D)} (h : isTree (.dic kvs) = true) (nd : (kvs.map (·.1)).Nodup) : ∃ sc : Sc, kvs = scK sc ∧ ScOk sc := by
  rw [isTree_dic, Bool.and_eq_true, Bool.and_eq_true, Bool.and_eq_true] at h
  obtain ⟨h1, h2, h3, h4⟩ := h
  have tl := TreeLike.of h1 h2
  obtain ⟨sc, rfl, hw⟩ := tabs_of oD (fun s _ => wordS s = true) (kvs := kvs) fun kv hkv => by
    obtain ⟨m1, m2⟩ := mem_keysD hkv
    obtain ⟨s, e1, w⟩ := key_word (List.all_eq_true.mp h1 _ m1)
    have hv := List.all_eq_true.mp h2 _ m2
    obtain ⟨k, v⟩ := kv
    obtain rfl : k = .inr s := e1
    cases v with
    | non => exact ⟨s, none, rfl, w⟩
    | str y => exact ⟨s, some y, rfl, w⟩
    | _ => cases hv
  have nd := nodup_tab nd
  refine ⟨sc, rfl, nd, fun s hs => ?_, fun s p hl => ?_, ?_⟩
  · obtain ⟨e, he, rfl⟩ := List.mem_map.mp hs
    exact hw e he
  · have hv : valD (scK sc) (.inr s) = some (.str p) := by rw [valD_mK, hl]; rfl
    rcases tl.closed s _ hv with z | ⟨y, z, hy⟩
    · cases z
    · cases z
      rw [isKey_mK'] at hy
      exact of_decide_eq_true hy
  · have h3 : (rootsOf (scK sc)).length = 1 := by have h3 : ((rootsOf (scK sc)).length : Int) = 1 := of_decide_eq_true h3; omega
    obtain ⟨r0, hr0⟩ : ∃ r0, rootsOf (scK sc) = [r0] := by
      match e : rootsOf (scK sc), h3 with
      | [x], _ => exact ⟨x, rfl⟩
    have hm : r0 ∈ rootsOf (scK sc) := by rw [hr0]; exact List.mem_cons_self
    obtain ⟨hm1, hm2⟩ := List.mem_filter.mp hm
    obtain ⟨r, rfl, hk⟩ := tl.keys r0 hm1
    have hn : lk sc r = some none := by
      have hm2 : (match valD (scK sc) (.inr r) with | some .non => true | _ => false) = true := hm2
      rw [valD_mK] at hm2
      cases e : lk sc r with
      | none => rw [e] at hm2; cases hm2
      | some v =>
        rw [e] at hm2
        cases v with
        | none => rfl
        | some y => cases hm2
    refine ⟨r, hn, fun s hs => ?_⟩
    have he := List.all_eq_true.mp h4 (.str s) (by rw [dkeys_mK]; exact List.mem_map.mpr ⟨s, hs, rfl⟩)
    have he : (match (wayOut (scK sc) s).getLast?, (rootsOf (scK sc)).head? with | some a, some (.str b) => decide (a = b) | _, _ => false) = true := he
    rw [hr0, wayOut_scK] at he
    cases e : (way sc s).getLast? with
    | none => rw [e] at he; cases he
    | some a =>
      rw [e] at he
      have he : decide (a = r) = true := he
      rw [of_decide_eq_true he] at e
      obtain ⟨pre, hp⟩ := List.getLast?_eq_some_iff.mp e
      exact ⟨pre, hp⟩
theorem mem_ditemsD {kvs : List (Key × D)} {kv : Key × D} (h : kv ∈ kvs) : D.tup [kD kv.1, kv.2] ∈ ditems kvs := List.mem_map.mpr ⟨kv, h, rfl⟩
theorem pairs_of {kvs : List (Key × D)} (h : namesPairs kvs = true) {kv : Key × D} (hk : kv ∈ kvs) : ∃ s a b, kv = (.inr s, .tup [a, b]) ∧ wordS s = true := by
  have := List.all_eq_true.mp h _ (mem_ditemsD hk)
  have this : (isWord (kD kv.1) && isPair kv.2) = true := this
  rw [Bool.and_eq_true] at this
  obtain ⟨s, e1, w⟩ := key_word this.1
  obtain ⟨a, b, e2⟩ := isPair_tup this.2
  obtain ⟨k, v⟩ := kv
  obtain rfl : k = .inr s := e1
  obtain rfl : v = .tup [a, b] := e2
  exact ⟨s, a, b, rfl, w⟩
theorem key_in {sc : Sc} {d : D} (h : isKey (scK sc) d = true) : ∃ s, d = .str s ∧ s ∈ keysN sc := by
  obtain ⟨s, rfl, _⟩ := isKey_str h
  rw [isKey_mK] at h
  exact ⟨s, rfl, of_decide_eq_true h⟩
theorem bnds_of {sc : Sc} {kvs : List (Key × D)} (h : areBnds (scK sc) (.dic kvs) = true) : ∃ t : Tb, kvs = tbK t ∧ ∀ e ∈ t, wordS e.1 = true ∧ wordS e.2.2 = true ∧ e.2.1 ∈ keysN sc := by
  rw [areBnds_dic, Bool.and_eq_true] at h
  refine tabs_of pD (fun s v => wordS s = true ∧ wordS v.2 = true ∧ v.1 ∈ keysN sc) fun kv hkv => ?_
  obtain ⟨s, a, b, rfl, w⟩ := pairs_of h.1 hkv
  have h2 := List.all_eq_true.mp h.2 _ (mem_keysD hkv).2
  have h2 : (isKey (scK sc) a && isWord b) = true := h2
  rw [Bool.and_eq_true] at h2
  obtain ⟨y, rfl, hy⟩ := key_in h2.1
  obtain ⟨x, rfl⟩ := isWord_str h2.2
  exact ⟨s, (y, x), rfl, w, h2.2, hy⟩
theorem uses_of {sc : Sc} {bn : Tb} {kvs : List (Key × D)} (h : areUses (scK sc) (tbK bn) (.dic kvs) = true) : ∃ t : Tb, kvs = tbK t ∧ ∀ e ∈ t, wordS e.1 = true ∧ e.2.1 ∈ keysN sc ∧ ∃ b, lk bn e.2.2 = some b ∧ b.1 ∈ way sc e.2.1 := by
  rw [areUses_dic, Bool.and_eq_true, Bool.and_eq_true] at h
  refine tabs_of pD (fun s v => wordS s = true ∧ v.1 ∈ keysN sc ∧ ∃ b, lk bn v.2 = some b ∧ b.1 ∈ way sc v.1) fun kv hkv => ?_
  obtain ⟨s, a, b, rfl, w⟩ := pairs_of h.1 hkv
  have h2 := List.all_eq_true.mp h.2.1 _ (mem_keysD hkv).2
  have h2 : (isKey (scK sc) a && isKey (tbK bn) b) = true := h2
  rw [Bool.and_eq_true] at h2
  obtain ⟨y, rfl, hy⟩ := key_in h2.1
  obtain ⟨t, rfl, _⟩ := isKey_str h2.2
  have ht := h2.2
  rw [isKey_mK] at ht
  obtain ⟨v, hv⟩ := lk_some (of_decide_eq_true ht)
  have h3 := List.all_eq_true.mp h.2.2 _ (mem_keysD hkv).2
  have h3 : (match valD (tbK bn) (.inr t) with | some (.tup [.str b, _]) => decide (b ∈ wayOut (scK sc) y) | _ => false) = true := h3
  rw [valD_mK, hv, wayOut_scK] at h3
  exact ⟨s, (y, t), rfl, w, hy, v, hv, of_decide_eq_true h3⟩
theorem words_of {r : D} (h : isWords r = true) : ∃ rs, wordsOf r rs ∧ ∀ s ∈ rs, wordS s = true := by
  have key : ∀ {xs : List D}, xs.all isWord = true → ∃ rs : List Str, xs = rs.map .str ∧ ∀ s ∈ rs, wordS s = true := fun {xs} h => by
    refine maps_of D.str (fun s => wordS s = true) fun x hx => ?_
    have := List.all_eq_true.mp h x hx
    obtain ⟨s, rfl⟩ := isWord_str this
    exact ⟨s, rfl, this⟩
  cases r with
  | lst xs => obtain ⟨rs, rfl, hw⟩ := key h; exact ⟨rs, .inl rfl, hw⟩
  | tup xs => obtain ⟨rs, rfl, hw⟩ := key h; exact ⟨rs, .inr rfl, hw⟩
  | _ => cases h
structure Arg (d : D) : Prop where
  pl : pl d = true
  dk : ∀ kvs, d = .dic kvs → kvs.length ≤ 1000 ∧ (kvs.map (·.1)).Nodup
  sq : ∀ xs, d = .lst xs ∨ d = .tup xs → xs.length ≤ 1000
  rp : Rp 4 19000 d
theorem Arg.small {d : D} (h : Arg d) : smallD d := ⟨fun kvs e => Nat.lt_of_le_of_lt (h.dk kvs e).1 (by rw [sizeLine_eq]; decide), fun xs e => Nat.le_trans (h.sq xs e) (by rw [sizeLine_eq]; decide)⟩
theorem prog_of {s b u o r : D} (h : isProg s b u o r = true) (hs : Arg s) (hb : Arg b) (hu : Arg u) (ho : Arg o) (hr : Arg r) : ∃ P, s = .dic (scK P.sc) ∧ b = .dic (tbK P.bn) ∧ u = .dic (tbK P.us) ∧ o = .dic (tbK P.ou) ∧ wordsOf r P.rs ∧ WF P := by
  cases s with
  | dic sc =>
    cases b with
    | dic bn =>
      cases u with
      | dic us =>
        cases o with
        | dic os =>
          have h : (isTree (.dic sc) && (areBnds sc (.dic bn) && (areUses sc bn (.dic us) && (areBnds sc (.dic os) && (isWords r && !(dkeys os).any (hasKey us)))))) = true := h
          simp only [Bool.and_eq_true] at h
          obtain ⟨h1, h2, h3, h4, h5, h6⟩ := h
          obtain ⟨z1, n1⟩ := hs.dk _ rfl
          obtain ⟨z2, n2⟩ := hb.dk _ rfl
          obtain ⟨z3, n3⟩ := hu.dk _ rfl
          obtain ⟨z4, n4⟩ := ho.dk _ rfl
          obtain ⟨t1, rfl, o1⟩ := tree_of h1 n1
          obtain ⟨t2, rfl, o2⟩ := bnds_of h2
          obtain ⟨t3, rfl, o3⟩ := uses_of h3
          obtain ⟨t4, rfl, o4⟩ := bnds_of h4
          obtain ⟨rs, hrs, o5⟩ := words_of h5
          have lr : rs.length ≤ 1000 := by
            rcases hrs with rfl | rfl
            · have := hr.sq _ (.inl rfl); rw [List.length_map] at this; exact this
            · have := hr.sq _ (.inr rfl); rw [List.length_map] at this; exact this
          rw [len_mK] at z1 z2 z3 z4
          refine ⟨⟨t1, t2, t3, t4, rs⟩, rfl, rfl, rfl, rfl, hrs, o1, nodup_tab n2, o2, nodup_tab n3, o3, nodup_tab n4, o4, fun s hs hv => ?_, o5, z1, z2, z3, z4, lr⟩
          have h6 : ((dkeys (tbK t4)).any (hasKey (tbK t3))) = false := by simpa using h6
          have := List.any_eq_false.mp h6 (.str s) (by rw [dkeys_mK]; exact List.mem_map.mpr ⟨s, hs, rfl⟩)
          refine this ?_
          show (valD (tbK t3) (.inr s)).isSome = true
          rw [isKey_mK']
          exact decide_eq_true hv
        | _ => cases h
      | _ => cases h
    | _ => cases h
  | _ => cases h
end DL
namespace DL
open PySem PySem.Spec PyProof.Rows L2
section
variable {sc : Sc} {r : Str} (nd : (keysN sc).Nodup) (hr : lk sc r = some none) (hu : ∀ s, lk sc s = some none → s = r) (cl : ∀ s p, lk sc s = some (some p) → p ∈ keysN sc)
include nd hr hu cl
end
end DL
namespace DL
open PySem PySem.Spec PyProof.Rows L2
structure AK (n : Nat) (kvs : List (Key × D)) : Prop where
  nd : (kvs.map (·.1)).Nodup
  ln : kvs.length ≤ n
  vl : ∀ kv ∈ kvs, (Rp 2 20 (kD kv.1) ∧ pl (kD kv.1) = true) ∧ Rp 2 280 kv.2 ∧ pl kv.2 = true
theorem AK.pl {n : Nat} {kvs : List (Key × D)} (h : AK n kvs) : pl (.dic kvs) = true := by
  have : ∀ ks : List (Key × D), (∀ kv ∈ ks, DL.pl (kD kv.1) = true ∧ DL.pl kv.2 = true) → plK ks = true := by
    intro ks
    induction ks with
    | nil => intro _; rfl
    | cons a r ih =>
      intro h
      obtain ⟨k, d⟩ := a
      obtain ⟨h1, h2⟩ := h (k, d) List.mem_cons_self
      have h3 := ih fun x hx => h x (List.mem_cons_of_mem _ hx)
      unfold plK
      rw [h2, h3]
      cases k with
      | inl i => rfl
      | inr s =>
        have h1 : decide (s.length ≤ sizeLine) = true := h1
        show (decide (s.length ≤ sizeLine) && true && true) = true
        rw [h1]
        rfl
  exact this kvs fun kv hkv => ⟨(h.vl kv hkv).1.2, (h.vl kv hkv).2.2⟩
theorem AK.mono {n m : Nat} {kvs : List (Key × D)} (h : AK n kvs) (hn : n ≤ m) : AK m kvs := ⟨h.nd, Nat.le_trans h.ln hn, h.vl⟩
theorem AK.put {n : Nat} {kvs : List (Key × D)} (h : AK n kvs) {k : Key} {v : D} (hk : Rp 2 20 (kD k) ∧ DL.pl (kD k) = true) (hv : Rp 2 280 v ∧ DL.pl v = true) : AK (n + 1) (putD kvs k v) := by
  unfold putD
  split
  · refine ⟨?_, (by rw [List.length_map]; have := h.ln; omega), fun kv hkv => ?_⟩
    · rw [List.map_map]
      have e : ((fun kv : Key × D => kv.1) ∘ fun kv : Key × D => if kv.1 = k then (kv.1, v) else kv) = fun kv => kv.1 := by
        funext kv
        show (if kv.1 = k then (kv.1, v) else kv).1 = kv.1
        split <;> rfl
      rw [e]
      exact h.nd
    · obtain ⟨a, ha, rfl⟩ := List.mem_map.mp hkv
      split
      · exact ⟨(h.vl a ha).1, hv⟩
      · exact h.vl a ha
  · rename_i c
    refine ⟨?_, (by rw [List.length_append]; have := h.ln; show _ + 1 ≤ _; omega), fun kv hkv => ?_⟩
    · rw [List.map_append, List.nodup_append]
      refine ⟨h.nd, by simp, fun a ha b hb e => c ?_⟩
      obtain ⟨y, hy, rfl⟩ := List.mem_map.mp ha
      have hb : b ∈ [k] := hb
      rw [List.mem_singleton.mp hb] at e
      exact List.any_eq_true.mpr ⟨y, hy, decide_eq_true e⟩
    · rcases List.mem_append.mp hkv with hkv | hkv
      · exact h.vl kv hkv
      · rw [List.mem_singleton.mp hkv]
        exact ⟨hk, hv⟩
theorem AK.nil : AK 0 [] := ⟨List.nodup_nil, Nat.le_refl _, fun _ h => nomatch h⟩
theorem AK.merge {n : Nat} : ∀ {ps : List (Key × D)} {kvs : List (Key × D)}, AK n kvs → (∀ kv ∈ ps, (Rp 2 20 (kD kv.1) ∧ DL.pl (kD kv.1) = true) ∧ Rp 2 280 kv.2 ∧ DL.pl kv.2 = true) → AK (n + ps.length) (mergeD kvs ps)
  | [], kvs, h, _ => h
  | (k, v) :: r, kvs, h, hp => by
    have h1 := hp (k, v) List.mem_cons_self
    have := AK.merge (h.put h1.1 h1.2) (ps := r) fun kv hkv => hp kv (List.mem_cons_of_mem _ hkv)
    rw [List.length_cons, show n + (r.length + 1) = n + 1 + r.length by omega]
    exact this
theorem word_ak {s : Str} (h : wordS s = true) : Rp 2 20 (kD (.inr s)) ∧ DL.pl (kD (.inr s)) = true := ⟨(Rp.str h).mono (by decide) (by decide), word_pl h⟩
theorem pair_ak {a b : Str} (h1 : wordS a = true) (h2 : wordS b = true) : Rp 2 280 (.tup [.str a, .str b]) ∧ DL.pl (.tup [.str a, .str b]) = true := ⟨(Rp.pD (p := (a, b)) h1 h2).mono (by decide) (by decide), pl_pD (p := (a, b)) h1 h2⟩
theorem ak_tb {t : Tb} (nd : (keysN t).Nodup) (hw : ∀ e ∈ t, wordS e.1 = true ∧ wordS e.2.1 = true ∧ wordS e.2.2 = true) {n : Nat} (h : t.length ≤ n) : AK n (tbK t) := by
  refine ⟨by rw [mK_keys]; exact nd.map _ fun a b hne e => hne (Sum.inr.inj e), by rw [len_mK]; exact h, fun kv hkv => ?_⟩
  obtain ⟨e, he, rfl⟩ := List.mem_map.mp hkv
  obtain ⟨w1, w2, w3⟩ := hw e he
  exact ⟨word_ak w1, pair_ak w2 w3⟩
def argB (d : D) : Bool := pl d && (rpB 4 19000 d && (match d with
  | .dic kvs => decide (kvs.length ≤ 1000) && decide (kvs.map (·.1)).Nodup
  | .lst xs => decide (xs.length ≤ 1000)
  | .tup xs => decide (xs.length ≤ 1000)
  | _ => true))
theorem Arg.of {d : D} (h : argB d = true) : Arg d := by
  unfold argB at h
  rw [Bool.and_eq_true, Bool.and_eq_true] at h
  obtain ⟨h1, h2, h3⟩ := h
  refine ⟨h1, fun kvs e => ?_, fun xs e => ?_, Rp.of h2⟩
  · subst e
    have h3 : (decide (kvs.length ≤ 1000) && decide (kvs.map (·.1)).Nodup) = true := h3
    rw [Bool.and_eq_true] at h3
    exact ⟨of_decide_eq_true h3.1, of_decide_eq_true h3.2⟩
  · rcases e with rfl | rfl
    · exact of_decide_eq_true h3
    · exact of_decide_eq_true h3
def Args (x : D) : Prop := ∃ s b u o r, x = .tup [s, b, u, o, r] ∧ Arg s ∧ Arg b ∧ Arg u ∧ Arg o ∧ Arg r
def SV (k n : Nat) (v : D) : Prop := Rp k n v ∧ pl v = true
def svB (k n : Nat) (v : D) : Bool := rpB k n v && pl v
theorem SV.of {k n : Nat} {v : D} (h : svB k n v = true) : SV k n v := by
  unfold svB at h
  rw [Bool.and_eq_true] at h
  exact ⟨Rp.of h.1, h.2⟩
theorem SV.mono {k n k' n' : Nat} {v : D} (h : SV k n v) (hk : k ≤ k' := by decide) (hn : n ≤ n' := by decide) : SV k' n' v := ⟨h.1.mono hk hn, h.2⟩
theorem SV.str {s : Str} (h : wordS s = true) : SV 0 8 (.str s) := ⟨Rp.str h, word_pl h⟩
theorem sv_plL {k n : Nat} : ∀ {xs : List D}, (∀ x ∈ xs, SV k n x) → plL xs = true
  | [], _ => rfl
  | x :: r, h => by
    unfold plL
    rw [(h x List.mem_cons_self).2, sv_plL (xs := r) fun y hy => h y (List.mem_cons_of_mem _ hy)]
    rfl
theorem SV.tup {k n : Nat} {xs : List D} (h : ∀ x ∈ xs, SV k n x) : SV (k + 1) (xs.length * (n + 1)) (.tup xs) := ⟨Rp.tup fun x hx => (h x hx).1, by unfold DL.pl; exact sv_plL h⟩
theorem SV.lst {k n : Nat} {xs : List D} (h : ∀ x ∈ xs, SV k n x) : SV (k + 1) (xs.length * (n + 1)) (.lst xs) := ⟨Rp.lst fun x hx => (h x hx).1, by unfold DL.pl; exact sv_plL h⟩
theorem sv_two {k n : Nat} {a b : D} (h1 : SV k n a) (h2 : SV k n b) : SV (k + 1) (2 * (n + 1)) (.tup [a, b]) := SV.tup (xs := [a, b]) fun x hx => by
  simp only [List.mem_cons, List.not_mem_nil, or_false] at hx
  rcases hx with rfl | rfl
  · exact h1
  · exact h2
theorem SV.argL {xs : List D} {n : Nat} (h : ∀ x ∈ xs, SV 3 n x) (hl : xs.length * (n + 1) ≤ 19000) (h2 : xs.length ≤ 1000) : Arg (.lst xs) ∧ Arg (.tup xs) :=
  ⟨⟨(SV.lst h).2, fun kvs e => (by cases e), fun ys e => (by rcases e with e | e <;> cases e; exact h2), (SV.lst h).1.mono (by decide) hl⟩, ⟨(SV.tup h).2, fun kvs e => (by cases e), fun ys e => (by rcases e with e | e <;> cases e; exact h2), (SV.tup h).1.mono (by decide) hl⟩⟩
theorem AK.items {n : Nat} {kvs : List (Key × D)} (h : AK n kvs) (hn : n ≤ 30) : Arg (.lst (ditems kvs)) ∧ Arg (.lst (kvs.map fun kv => kD kv.1)) := by
  have hl := h.ln
  have l1 : (ditems kvs).length = kvs.length := List.length_map _
  have l2 : (kvs.map fun kv => kD kv.1).length = kvs.length := List.length_map _
  refine ⟨?_, (SV.argL (n := 20) (fun x hx => ?_) (by rw [l2]; omega) (by omega)).1⟩
  · refine (SV.argL (n := 562) (fun x hx => ?_) (by rw [l1]; omega) (by omega)).1
    obtain ⟨kv, hkv, rfl⟩ := List.mem_map.mp hx
    obtain ⟨⟨a1, a2⟩, b1, b2⟩ := h.vl kv hkv
    exact sv_two (SV.mono ⟨a1, a2⟩) ⟨b1, b2⟩
  · obtain ⟨kv, hkv, rfl⟩ := List.mem_map.mp hx
    exact (SV.mono (h.vl kv hkv).1)
theorem Arg.tb {P : Parts} (o : WF P) {n : Nat} (h : P.bn.length ≤ n ∧ P.us.length ≤ n ∧ P.ou.length ≤ n) : AK n (tbK P.bn) ∧ AK n (tbK P.us) ∧ AK n (tbK P.ou) := by
  have hu : ∀ e ∈ P.us, wordS e.2.2 = true := fun e he => by
    obtain ⟨_, _, b, hb, _⟩ := o.uwd e he
    exact (o.keyB hb).1
  exact ⟨ak_tb o.bnd (fun e he => ⟨(o.bwd e he).1, o.sc.wd _ (o.bwd e he).2.2, (o.bwd e he).2.1⟩) h.1,
    ak_tb o.usd (fun e he => ⟨(o.uwd e he).1, o.sc.wd _ (o.uwd e he).2.1, hu e he⟩) h.2.1,
    ak_tb o.oud (fun e he => ⟨(o.owd e he).1, o.sc.wd _ (o.owd e he).2.2, (o.owd e he).2.1⟩) h.2.2⟩
def Small (n : Nat) (d : D) : Prop := (∀ kvs, d = .dic kvs → kvs.length ≤ n) ∧ ∀ xs, d = .lst xs ∨ d = .tup xs → xs.length ≤ n
theorem AK.small {n m : Nat} {kvs : List (Key × D)} (h : AK n kvs) (hn : n ≤ m) : Small m (.dic kvs) := ⟨fun k e => (by cases e; exact Nat.le_trans h.ln hn), fun xs e => (by rcases e with e | e <;> cases e)⟩
theorem Small.lst {n : Nat} {xs : List D} (h : xs.length ≤ n) : Small n (.lst xs) ∧ Small n (.tup xs) := ⟨⟨fun k e => (by cases e), fun ys e => (by rcases e with e | e <;> cases e; exact h)⟩, ⟨fun k e => (by cases e), fun ys e => (by rcases e with e | e <;> cases e; exact h)⟩⟩
end DL
namespace DL
open PySem PySem.Spec PyProof.Rows L2
def idN (k : Str) (n : Nat) : Str := ⟨#[(k.cps.toList.headD 0)]⟩ ++ toString ((n / 10 : Nat) : Int) ++ toString ((n % 10 : Nat) : Int)
def depS (x : Str) : Bool := decide (1 ≤ x.length) && (decide (x.length ≤ 2) && ((x.cps.toList.all fun c => decide (c ∈ digits.cps.toList)) && (!decide (x.cps.toList.head? = some 48) || decide (x = "0"))))
end DL
namespace DL
open PySem PySem.Spec PyProof.Rows L2
structure Sd where
  P : Parts
  op : List Str
  la : Str
def sd0 : Sd := ⟨⟨[], [], [], [], []⟩, [], "scope"⟩
def sdF (p q1 q2 q3 : Addr) (S : Sd) : List (Str × D) := [("parents", .ref p), ("declared", .ref q1), ("found", .ref q2), ("missing", .ref q3), ("opened", .lst (S.op.map .str)), ("last", .str S.la)]
structure SdM (m0 m : Mem) (d dx p q1 q2 q3 : Addr) (S : Sd) : Prop where
  keep : ∀ a o, m0 a = some o → m a = some o
  hd : m d = some (.ins "Reader" dx (sdF p q1 q2 q3 S))
  h1 : m p = some (.dic (scK S.P.sc))
  h2 : m q1 = some (.dic (tbK S.P.bn))
  h3 : m q2 = some (.dic (tbK S.P.us))
  h4 : m q3 = some (.dic (tbK S.P.ou))
  fr : ∀ a ∈ [d, p, q1, q2, q3], m0 a = none
  nd : [d, p, q1, q2, q3].Nodup
theorem SdM.ne {m0 m : Mem} {d dx p q1 q2 q3 : Addr} {S : Sd} (h : SdM m0 m d dx p q1 q2 q3 S) :
    (d ≠ p ∧ d ≠ q1 ∧ d ≠ q2 ∧ d ≠ q3) ∧ (p ≠ q1 ∧ p ≠ q2 ∧ p ≠ q3) ∧ (q1 ≠ q2 ∧ q1 ≠ q3) ∧ q2 ≠ q3 := by
  have := h.nd
  simp only [List.nodup_cons, List.mem_cons, List.not_mem_nil, or_false, not_or] at this
  obtain ⟨a, b, c, e, _⟩ := this
  exact ⟨a, b, c, e⟩
section
variable {m0 m : Mem} {d dx p q1 q2 q3 : Addr} {S : Sd}
theorem sd_keep {o : MO} {a0 : Addr} (h : ∀ a o, m0 a = some o → m a = some o) (f : m0 a0 = none) : ∀ a o', m0 a = some o' → updM m a0 o a = some o' := fun a o' ha => by
  have : a ≠ a0 := fun z => by rw [z, f] at ha; cases ha
  rw [updM_ne this]
  exact h a o' ha
theorem SdM.putF (h : SdM m0 m d dx p q1 q2 q3 S) (op : List Str) (la : Str) : SdM m0 (updM m d (.ins "Reader" dx (sdF p q1 q2 q3 ⟨S.P, op, la⟩))) d dx p q1 q2 q3 ⟨S.P, op, la⟩ := by
  obtain ⟨⟨n1, n2, n3, n4⟩, ⟨n6, n7, n8⟩, ⟨n10, n11⟩, n13⟩ := h.ne
  exact ⟨sd_keep h.keep (h.fr d (by simp)), updM_same, (updM_ne n1.symm).trans h.h1, (updM_ne n2.symm).trans h.h2, (updM_ne n3.symm).trans h.h3, (updM_ne n4.symm).trans h.h4, h.fr, h.nd⟩
end
def depV (x : Str) : Nat := x.cps.toList.foldl (fun a c => a * 10 + (c - 48)) 0
def sdScope (S : Sd) (n : Nat) : Option Sd :=
  if S.op.length < n ∨ (n = 0 ∧ S.op ≠ []) then none
  else some ⟨{ S.P with sc := putN S.P.sc (idN "scope" S.P.sc.length) (if n = 0 then none else S.op[n - 1]?) }, S.op.take n ++ [idN "scope" S.P.sc.length], S.la⟩
def sdSeen (S : Sd) (x : Str) : Option Str := (firstNE (declN S.P x) S.op.reverse).head?
def sdHere (S : Sd) : Str := (S.op[S.op.length - 1]?).getD ""
def sdBind (S : Sd) (x : Str) : Option Sd :=
  if S.la = "use" ∨ (sdHere S, x) ∈ S.P.bn.map (·.2) then none
  else some ⟨{ S.P with bn := putN S.P.bn (idN "bind" S.P.bn.length) (sdHere S, x) }, S.op, S.la⟩
def sdUse (S : Sd) (x : Str) : Sd := match sdSeen S x with
  | none => ⟨{ S.P with ou := putN S.P.ou (idN "use" (S.P.us.length + S.P.ou.length)) (sdHere S, x) }, S.op, S.la⟩
  | some b => ⟨{ S.P with us := putN S.P.us (idN "use" (S.P.us.length + S.P.ou.length)) (sdHere S, b) }, S.op, S.la⟩
def kindsS : List Str := ["scope", "bind", "use"]
def sdWord (S : Sd) (k x : Str) : Option Sd := if k = "bind" then sdBind S x else some (sdUse S x)
def sdRest (S : Sd) (d k : Str) (rest : List Str) : Option Sd := if depS d = false ∨ k ∉ kindsS then none
    else if k = "scope" then (if rest = [] then (sdScope S (depV d)).map fun S' => ⟨S'.P, S'.op, k⟩ else none)
    else match rest with
      | [x] => if depV d + 1 = S.op.length ∧ wordS x = true then (sdWord S k x).map fun S' => ⟨S'.P, S'.op, k⟩ else none
      | _ => none
def sdLine (S : Sd) : List Str → Option Sd
  | d :: k :: rest => sdRest S d k rest
  | _ => none
structure SdZ (S : Sd) (n : Nat) : Prop where
  sc : S.P.sc.length ≤ n
  bn : S.P.bn.length ≤ n
  ub : S.P.us.length + S.P.ou.length ≤ n
  op : S.op.length ≤ n
  bw : ∀ e ∈ S.P.bn, PyData.strOk e.2.1 = true ∧ PyData.strOk e.2.2 = true
  ow : ∀ s ∈ S.op, PyData.strOk s = true
theorem SdZ.zero : SdZ sd0 0 := ⟨Nat.le_refl _, Nat.le_refl _, Nat.le_refl _, Nat.le_refl _, nofun, nofun⟩
theorem SdZ.mono {S : Sd} {n k : Nat} (h : SdZ S n) (e : n ≤ k) : SdZ S k := ⟨Nat.le_trans h.sc e, Nat.le_trans h.bn e, Nat.le_trans h.ub e, Nat.le_trans h.op e, h.bw, h.ow⟩
theorem idN_wd : ∀ n : Nat, n < 1001 → wordS (idN "scope" n) = true ∧ wordS (idN "bind" n) = true ∧ wordS (idN "use" n) = true := by decide +kernel
theorem sd_here_ok {S : Sd} {n : Nat} (h : SdZ S n) : PyData.strOk (sdHere S) = true := by
  unfold sdHere
  cases e : S.op[S.op.length - 1]? with
  | none => exact (by decide +kernel : PyData.strOk ("" : Str) = true)
  | some s => exact h.ow s (List.mem_of_getElem? e)
theorem SdZ.line {S S' : Sd} {n : Nat} {ws : List Str} (h : SdZ S n) (hn : n ≤ 1000) (e : sdLine S ws = some S') : SdZ S' (n + 1) := by
  have hok := sd_here_ok h
  obtain ⟨a, b, c, o, bw, ow⟩ := h
  have lk2 : ∀ {t : Option Sd} {k : Str}, (t.map fun S' => (⟨S'.P, S'.op, k⟩ : Sd)) = some S' → ∃ T, t = some T ∧ S' = ⟨T.P, T.op, k⟩ := fun {t k} e => by
    cases t with
    | none => cases e
    | some z => cases e; exact ⟨z, rfl, rfl⟩
  match ws, e with
  | [], e => cases e
  | [_], e => cases e
  | d :: k :: rest, e =>
    have e : sdRest S d k rest = some S' := e
    unfold sdRest at e
    split at e
    · cases e
    · split at e
      · split at e
        · obtain ⟨T, hT, rfl⟩ := lk2 e
          unfold sdScope at hT
          split at hT
          · cases hT
          · cases hT
            have := len_putN S.P.sc (idN "scope" S.P.sc.length) (if depV d = 0 then none else S.op[depV d - 1]?)
            refine ⟨by show (putN _ _ _).length ≤ _; omega, by show S.P.bn.length ≤ _; omega, by show S.P.us.length + S.P.ou.length ≤ _; omega, ?_, bw, fun s hs => ?_⟩
            · show (S.op.take (depV d) ++ [_]).length ≤ _
              rw [List.length_append, List.length_take]
              simp
              omega
            · have hs : s ∈ S.op.take (depV d) ++ [idN "scope" S.P.sc.length] := hs
              rcases List.mem_append.mp hs with hs | hs
              · exact ow s (List.mem_of_mem_take hs)
              · rw [List.mem_singleton.mp hs]
                exact word_ok (idN_wd _ (by omega)).1
        · cases e
      · split at e
        · rename_i x _
          split at e
          · rename_i hw
            obtain ⟨T, hT, rfl⟩ := lk2 e
            unfold sdWord at hT
            split at hT
            · unfold sdBind at hT
              split at hT
              · cases hT
              · cases hT
                have := len_putN S.P.bn (idN "bind" S.P.bn.length) (sdHere S, x)
                refine ⟨by show S.P.sc.length ≤ _; omega, by show (putN _ _ _).length ≤ _; omega, by show S.P.us.length + S.P.ou.length ≤ _; omega, by show S.op.length ≤ _; omega, fun y hy => ?_, ow⟩
                rcases mem_putN hy with hy | rfl
                · exact bw y hy
                · exact ⟨hok, word_ok hw.2⟩
            · cases hT
              unfold sdUse
              split
              · have := len_putN S.P.ou (idN "use" (S.P.us.length + S.P.ou.length)) (sdHere S, x)
                exact ⟨by show S.P.sc.length ≤ _; omega, by show S.P.bn.length ≤ _; omega, by show S.P.us.length + (putN _ _ _).length ≤ _; omega, by show S.op.length ≤ _; omega, bw, ow⟩
              · rename_i b _
                have := len_putN S.P.us (idN "use" (S.P.us.length + S.P.ou.length)) (sdHere S, b)
                exact ⟨by show S.P.sc.length ≤ _; omega, by show S.P.bn.length ≤ _; omega, by show (putN _ _ _).length + S.P.ou.length ≤ _; omega, by show S.op.length ≤ _; omega, bw, ow⟩
          · cases e
        · cases e
end DL
namespace DL
open PySem PySem.Spec PyProof.Rows L2
def idV (x : Str) : Nat := (x.cps.toList.drop 1).foldl (fun a c => a * 10 + (c - 48)) 0
theorem idV_id : ∀ n : Nat, n < 1001 → idV (idN "scope" n) = n ∧ idV (idN "bind" n) = n ∧ idV (idN "use" n) = n := by decide +kernel
def namesI (k : Str) (n : Nat) : List Str := (List.range n).map (idN k)
theorem namesI_succ (k : Str) (n : Nat) : namesI k (n + 1) = namesI k n ++ [idN k n] := by unfold namesI; rw [List.range_succ, List.map_append]; rfl
theorem namesI_mem {k x : Str} {n : Nat} : x ∈ namesI k n ↔ ∃ i, i < n ∧ x = idN k i := by
  unfold namesI
  rw [List.mem_map]
  constructor
  · rintro ⟨i, hi, rfl⟩; exact ⟨i, List.mem_range.mp hi, rfl⟩
  · rintro ⟨i, hi, rfl⟩; exact ⟨i, List.mem_range.mpr hi, rfl⟩
theorem sc_fresh {n : Nat} (h : n < 1001) : idN "scope" n ∉ namesI "scope" n := fun m => by
  obtain ⟨i, hi, e⟩ := namesI_mem.mp m
  have e1 := (idV_id n h).1
  rw [e, (idV_id i (by omega)).1] at e1
  omega
theorem bn_fresh {n : Nat} (h : n < 1001) : idN "bind" n ∉ namesI "bind" n := fun m => by
  obtain ⟨i, hi, e⟩ := namesI_mem.mp m
  have e1 := (idV_id n h).2.1
  rw [e, (idV_id i (by omega)).2.1] at e1
  omega
theorem us_fresh {n : Nat} (h : n < 1001) : idN "use" n ∉ namesI "use" n := fun m => by
  obtain ⟨i, hi, e⟩ := namesI_mem.mp m
  have e1 := (idV_id n h).2.2
  rw [e, (idV_id i (by omega)).2.2] at e1
  omega
structure SdI (S : Sd) (n : Nat) : Prop where
  wf : (S.P = ⟨[], [], [], [], []⟩ ∧ S.op = []) ∨ (WF S.P ∧ S.op ≠ [])
  sz : Sz S.P n
  rs : S.P.rs = []
  ns : keysN S.P.sc = namesI "scope" S.P.sc.length
  nb : keysN S.P.bn = namesI "bind" S.P.bn.length
  nu : ∀ x, (x ∈ keysN S.P.us ∨ x ∈ keysN S.P.ou) → x ∈ namesI "use" (S.P.us.length + S.P.ou.length)
  ub : S.P.us.length + S.P.ou.length ≤ n
  op : ∀ i x, S.op[i]? = some x → x ∈ keysN S.P.sc ∧ way S.P.sc x = (S.op.take (i + 1)).reverse
theorem SdI.zero : SdI sd0 0 := ⟨.inl ⟨rfl, rfl⟩, ⟨Nat.le_refl _, Nat.le_refl _, Nat.le_refl _, Nat.le_refl _⟩, rfl, rfl, rfl, (fun x h => by rcases h with h | h <;> cases h), Nat.le_refl _, (fun i x h => by cases h)⟩
section
variable {S : Sd} {n : Nat}
theorem SdI.la (h : SdI S n) (l : Str) : SdI ⟨S.P, S.op, l⟩ n := ⟨h.wf, h.sz, h.rs, h.ns, h.nb, h.nu, h.ub, h.op⟩
theorem SdI.last (h : SdI S n) (hop : S.op ≠ []) : WF S.P ∧ sdHere S ∈ keysN S.P.sc ∧ way S.P.sc (sdHere S) = S.op.reverse := by
  have wf := (h.wf.resolve_left fun z => hop z.2).1
  have hl : 0 < S.op.length := List.length_pos_iff.mpr hop
  have e : S.op[S.op.length - 1]? = some (S.op[S.op.length - 1]'(by omega)) := List.getElem?_eq_getElem (by omega)
  obtain ⟨h1, h2⟩ := h.op _ _ e
  have es : sdHere S = S.op[S.op.length - 1]'(by omega) := by unfold sdHere; rw [e]; rfl
  rw [es]
  refine ⟨wf, h1, ?_⟩
  rw [h2, show S.op.length - 1 + 1 = S.op.length from by omega, List.take_length]
theorem SdI.seen (h : SdI S n) (hop : S.op ≠ []) (x : Str) : sdSeen S x = (foundN S.P (sdHere S) x).head? := by
  unfold sdSeen foundN
  rw [(h.last hop).2.2]
theorem SdI.scope {S' : Sd} {d : Nat} (h : SdI S n) (hn : n < 1000) (e : sdScope S d = some S') : SdI S' (n + 1) := by
  unfold sdScope at e
  split at e
  · cases e
  rename_i hc
  cases e
  have hlen : S.P.sc.length < 1001 := by have := h.sz.1; omega
  have fr : idN "scope" S.P.sc.length ∉ keysN S.P.sc := by rw [h.ns]; exact sc_fresh hlen
  have hw := (idN_wd _ hlen).1
  have nn : ∀ o : Option Str, keysN (putN S.P.sc (idN "scope" S.P.sc.length) o) = namesI "scope" (putN S.P.sc (idN "scope" S.P.sc.length) o).length := fun o => by
    rw [putN_new fr, List.length_append, show [(idN "scope" S.P.sc.length, o)].length = 1 from rfl, namesI_succ, ← h.ns]
    unfold keysN
    rw [List.map_append]
    rfl
  have hz : Sz { S.P with sc := putN S.P.sc (idN "scope" S.P.sc.length) (if d = 0 then none else S.op[d - 1]?) } (n + 1) :=
    ⟨by have := h.sz.1; have := len_putN S.P.sc (idN "scope" S.P.sc.length) (if d = 0 then none else S.op[d - 1]?); show (putN _ _ _).length ≤ _; omega, by have := h.sz.2.1; show S.P.bn.length ≤ _; omega, by have := h.sz.2.2.1; show S.P.us.length ≤ _; omega, by have := h.sz.2.2.2; show S.P.ou.length ≤ _; omega⟩
  have ub := h.ub
  by_cases hd : d = 0
  · have hop : S.op = [] := Classical.byContradiction fun z => hc (.inr ⟨hd, z⟩)
    have hP : S.P = ⟨[], [], [], [], []⟩ := (h.wf.resolve_right fun z => z.2 hop).1
    rw [if_pos hd] at hz ⊢
    refine ⟨.inr ⟨?_, by simp⟩, hz, h.rs, nn _, h.nb, h.nu, by show S.P.us.length + S.P.ou.length ≤ _; omega, fun i x hx => ?_⟩
    · rw [hP]
      rw [hP] at hz
      refine WF.of (P := ⟨putN [] (idN "scope" 0) none, [], [], [], []⟩) ((OrdSc.root (idN "scope" 0)).ok fun u hu => by have hu : u ∈ [idN "scope" 0] := hu; rw [List.mem_singleton.mp hu]; exact (idN_wd 0 (by decide)).1) .nil nofun .nil nofun .nil nofun nofun nofun hz (by omega) (by decide)
    · have hx : (S.op.take d ++ [idN "scope" S.P.sc.length])[i]? = some x := hx
      rw [hop, List.take_nil, List.nil_append] at hx
      have hi : i = 0 := by
        have := (List.getElem?_eq_some_iff.mp hx).1
        simp at this
        exact this
      subst hi
      cases hx
      rw [hP, hop]
      exact ⟨List.mem_singleton.mpr rfl, by show way [(idN "scope" 0, none)] (idN "scope" 0) = ((([] : List Str).take d ++ [idN "scope" 0]).take 1).reverse; rw [List.take_nil]; kernel_rfl⟩
  · have hdl : d ≤ S.op.length := by
      have : ¬ S.op.length < d := fun z => hc (.inl z)
      omega
    have hop : S.op ≠ [] := fun z => by rw [z] at hdl; simp at hdl; exact hd hdl
    have wf := (h.wf.resolve_left fun z => hop z.2).1
    obtain ⟨t, ht⟩ : ∃ t, S.op[d - 1]? = some t := ⟨_, List.getElem?_eq_getElem (by omega)⟩
    obtain ⟨tk, tw⟩ := h.op _ _ ht
    rw [show d - 1 + 1 = d from by omega] at tw
    rw [if_neg hd, ht] at hz ⊢
    have ea : addSN S.P (idN "scope" S.P.sc.length) t = some { S.P with sc := putN S.P.sc (idN "scope" S.P.sc.length) (some t) } := if_pos ⟨hw, tk, fr⟩
    obtain ⟨wf', _, _⟩ := addS_wf wf h.sz hn ea
    obtain ⟨ok', ways⟩ := addS_ok wf.sc hw tk fr
    have hk : ∀ u, u ∈ keysN S.P.sc → u ∈ keysN (putN S.P.sc (idN "scope" S.P.sc.length) (some t)) := fun u hu => by rw [keysN_putN, if_neg fr]; exact List.mem_append_left _ hu
    refine ⟨.inr ⟨wf', by simp⟩, hz, h.rs, nn _, h.nb, h.nu, by show S.P.us.length + S.P.ou.length ≤ _; omega, fun i x hx => ?_⟩
    have hx : (S.op.take d ++ [idN "scope" S.P.sc.length])[i]? = some x := hx
    have ltk : (S.op.take d).length = d := by rw [List.length_take]; omega
    by_cases hi : i < d
    · rw [List.getElem?_append_left (by omega), List.getElem?_take_of_lt hi] at hx
      obtain ⟨q1, q2⟩ := h.op _ _ hx
      refine ⟨hk _ q1, ?_⟩
      show way (putN S.P.sc _ _) x = ((S.op.take d ++ [_]).take (i + 1)).reverse
      rw [ways _ q1, q2, List.take_append_of_le_length (by omega), List.take_take, Nat.min_eq_left (by omega)]
    · have hi2 : i = d := by
        have := (List.getElem?_eq_some_iff.mp hx).1
        rw [List.length_append, ltk] at this
        simp at this
        omega
      subst hi2
      rw [List.getElem?_append_right (by omega), ltk, Nat.sub_self] at hx
      cases hx
      have hlk : lk (putN S.P.sc (idN "scope" S.P.sc.length) (some t)) (idN "scope" S.P.sc.length) = some (some t) := by rw [lk_putN, if_pos rfl]
      refine ⟨lk_key hlk, ?_⟩
      have et : (S.op.take i ++ [idN "scope" S.P.sc.length]).take (i + 1) = S.op.take i ++ [idN "scope" S.P.sc.length] := List.take_of_length_le (by rw [List.length_append, ltk]; simp)
      show way (putN S.P.sc _ _) _ = ((S.op.take i ++ [_]).take (i + 1)).reverse
      rw [et, ok'.way_cons hlk, ways _ tk, tw, List.reverse_append]
      rfl
theorem SdI.bind {S' : Sd} {x : Str} (h : SdI S n) (hn : n < 1000) (hop : S.op ≠ []) (hx : wordS x = true) (e : sdBind S x = some S') : SdI S' (n + 1) := by
  unfold sdBind at e
  split at e
  · cases e
  cases e
  obtain ⟨wf, hs, _⟩ := h.last hop
  have hlen : S.P.bn.length < 1001 := by have := h.sz.2.1; omega
  have fr : idN "bind" S.P.bn.length ∉ keysN S.P.bn := by rw [h.nb]; exact bn_fresh hlen
  have ea : addBN S.P (idN "bind" S.P.bn.length) (sdHere S) x = some { S.P with bn := putN S.P.bn (idN "bind" S.P.bn.length) (sdHere S, x) } := if_pos ⟨(idN_wd _ hlen).2.1, hx, hs, fr⟩
  obtain ⟨wf', hz, hrs⟩ := addB_wf wf h.sz hn ea
  refine ⟨.inr ⟨wf', hop⟩, hz, h.rs, h.ns, ?_, h.nu, by have := h.ub; show S.P.us.length + S.P.ou.length ≤ _; omega, h.op⟩
  show keysN (putN S.P.bn _ _) = namesI "bind" (putN S.P.bn _ _).length
  rw [putN_new fr, List.length_append, show [(idN "bind" S.P.bn.length, sdHere S, x)].length = 1 from rfl, namesI_succ, ← h.nb]
  unfold keysN
  rw [List.map_append]
  rfl
theorem SdI.use {x : Str} (h : SdI S n) (hn : n < 1000) (hop : S.op ≠ []) (hx : wordS x = true) : SdI (sdUse S x) (n + 1) := by
  obtain ⟨wf, hs, _⟩ := h.last hop
  have hub := h.ub
  have fr : idN "use" (S.P.us.length + S.P.ou.length) ∉ namesI "use" (S.P.us.length + S.P.ou.length) := us_fresh (by omega)
  have f1 : idN "use" (S.P.us.length + S.P.ou.length) ∉ keysN S.P.us := fun z => fr (h.nu _ (.inl z))
  have f2 : idN "use" (S.P.us.length + S.P.ou.length) ∉ keysN S.P.ou := fun z => fr (h.nu _ (.inr z))
  have hw := (idN_wd (S.P.us.length + S.P.ou.length) (by omega)).2.2
  have es := h.seen hop x
  have grow : ∀ y, (y ∈ keysN S.P.us ∨ y ∈ keysN S.P.ou ∨ y = idN "use" (S.P.us.length + S.P.ou.length)) → y ∈ namesI "use" (S.P.us.length + S.P.ou.length + 1) := fun y hy => by
    rw [namesI_succ]
    rcases hy with hy | hy | rfl
    · exact List.mem_append_left _ (h.nu _ (.inl hy))
    · exact List.mem_append_left _ (h.nu _ (.inr hy))
    · exact List.mem_append_right _ (List.mem_singleton.mpr rfl)
  unfold sdUse
  cases hse : sdSeen S x with
  | none =>
    have ea : addUN S.P "outer" (idN "use" (S.P.us.length + S.P.ou.length)) (sdHere S) x = some { S.P with ou := putN S.P.ou (idN "use" (S.P.us.length + S.P.ou.length)) (sdHere S, x) } := by
      unfold addUN
      rw [if_pos ⟨hw, hs, f1, f2⟩, if_pos rfl, if_pos hx]
    obtain ⟨wf', hz, hrs⟩ := addU_wf wf h.sz hn ea
    have el : (putN S.P.ou (idN "use" (S.P.us.length + S.P.ou.length)) (sdHere S, x)).length = S.P.ou.length + 1 := by rw [putN_new f2, List.length_append]; rfl
    refine ⟨.inr ⟨wf', hop⟩, hz, h.rs, h.ns, h.nb, fun y hy => ?_, by show S.P.us.length + (putN _ _ _).length ≤ _; rw [el]; omega, h.op⟩
    show y ∈ namesI "use" (S.P.us.length + (putN _ _ _).length)
    rw [el]
    refine grow y ?_
    rcases hy with hy | hy
    · exact .inl hy
    · rcases key_putN hy with hy | rfl
      · exact .inr (.inl hy)
      · exact .inr (.inr rfl)
  | some b =>
    have hb : b ∈ foundN S.P (sdHere S) x := by
      rw [hse] at es
      exact List.mem_of_head? es.symm
    obtain ⟨t, ht, hbt⟩ := firstNE_mem hb
    obtain ⟨y, hy, rfl⟩ := List.mem_map.mp hbt
    obtain ⟨hy1, hy2⟩ := List.mem_filter.mp hy
    have hy2 := of_decide_eq_true hy2
    have hlk := lk_of_mem wf.bnd (a := y.2) hy1
    have ea : addUN S.P "use" (idN "use" (S.P.us.length + S.P.ou.length)) (sdHere S) y.1 = some { S.P with us := putN S.P.us (idN "use" (S.P.us.length + S.P.ou.length)) (sdHere S, y.1) } := by
      unfold addUN
      rw [if_pos ⟨hw, hs, f1, f2⟩, if_neg (by decide), if_pos (inWay_iff.mpr ⟨y.2, hlk, by rw [hy2]; exact ht⟩)]
    obtain ⟨wf', hz, hrs⟩ := addU_wf wf h.sz hn ea
    have el : (putN S.P.us (idN "use" (S.P.us.length + S.P.ou.length)) (sdHere S, y.1)).length = S.P.us.length + 1 := by rw [putN_new f1, List.length_append]; rfl
    refine ⟨.inr ⟨wf', hop⟩, hz, h.rs, h.ns, h.nb, fun z hz2 => ?_, by show (putN _ _ _).length + S.P.ou.length ≤ _; rw [el]; omega, h.op⟩
    show z ∈ namesI "use" ((putN _ _ _).length + S.P.ou.length)
    rw [el, show S.P.us.length + 1 + S.P.ou.length = S.P.us.length + S.P.ou.length + 1 from by omega]
    refine grow z ?_
    rcases hz2 with hy | hy
    · rcases key_putN hy with hy | rfl
      · exact .inl hy
      · exact .inr (.inr rfl)
    · exact .inr (.inl hy)
theorem SdI.line {S' : Sd} {ws : List Str} (h : SdI S n) (hn : n < 1000) (e : sdLine S ws = some S') : SdI S' (n + 1) ∧ S'.op ≠ [] := by
  have lk2 : ∀ {t : Option Sd} {k : Str}, (t.map fun S' => (⟨S'.P, S'.op, k⟩ : Sd)) = some S' → ∃ T, t = some T ∧ S' = ⟨T.P, T.op, k⟩ := fun {t k} e => by
    cases t with
    | none => cases e
    | some z => cases e; exact ⟨z, rfl, rfl⟩
  match ws, e with
  | [], e => cases e
  | [_], e => cases e
  | d :: k :: rest, e =>
    have e : sdRest S d k rest = some S' := e
    unfold sdRest at e
    split at e
    · cases e
    · split at e
      · split at e
        · obtain ⟨T, hT, rfl⟩ := lk2 e
          refine ⟨(h.scope hn hT).la k, ?_⟩
          unfold sdScope at hT
          split at hT
          · cases hT
          · cases hT; simp
        · cases e
      · split at e
        · rename_i x _
          split at e
          · rename_i hw
            have hop : S.op ≠ [] := fun z => by rw [z] at hw; have := hw.1; simp at this
            obtain ⟨T, hT, rfl⟩ := lk2 e
            unfold sdWord at hT
            split at hT
            · refine ⟨(h.bind hn hop hw.2 hT).la k, ?_⟩
              unfold sdBind at hT
              split at hT
              · cases hT
              · cases hT; exact hop
            · cases hT
              refine ⟨(h.use hn hop hw.2).la k, ?_⟩
              unfold sdUse
              split <;> exact hop
          · cases e
        · cases e
end
end DL
namespace DL
open PySem PySem.Spec PyProof.Rows L2
def msL (f : Str → Nat) (L : List Str) : Nat := (L.map f).sum
theorem ms_app (f : Str → Nat) (A B : List Str) : msL f (A ++ B) = msL f A + msL f B := by
  unfold msL
  rw [List.map_append, List.sum_append]
theorem ms_one (f : Str → Nat) (x : Str) : msL f [x] = f x := by unfold msL; simp
theorem ms_split (f : Str → Nat) (L : List Str) (a : Nat) : msL f (L.take a) + msL f (L.drop a) = msL f L := by
  rw [← ms_app, List.take_append_drop]
theorem ms_drop {f : Str → Nat} {L : List Str} {m : Nat} (h : ∀ x ∈ L, f x ≤ m) (a : Nat) : msL f (L.drop (a + 1)) ≤ msL f (L.drop a) ∧ msL f (L.drop a) ≤ msL f (L.drop (a + 1)) + m := by
  by_cases hl : a < L.length
  · rw [List.drop_eq_getElem_cons hl]
    have := h _ (List.getElem_mem hl)
    show msL f _ ≤ msL f ([L[a]] ++ L.drop (a + 1)) ∧ msL f ([L[a]] ++ L.drop (a + 1)) ≤ _
    rw [ms_app, ms_one]
    omega
  · rw [List.drop_eq_nil_of_le (show L.length ≤ a by omega), List.drop_eq_nil_of_le (show L.length ≤ a + 1 by omega)]
    exact ⟨Nat.le_refl _, Nat.le_add_right _ _⟩
theorem ms_rev (f : Str → Nat) : ∀ A : List Str, msL f A.reverse = msL f A
  | [] => rfl
  | a :: r => by
    rw [List.reverse_cons, ms_app, ms_rev f r, show a :: r = [a] ++ r from rfl, ms_app]
    omega
inductive Spo (odd : List Str) (L : List Str) : List Str → Prop
  | put {a b : Nat} {one : Str} : one ∈ odd → (b = a ∨ b = a + 1) → Spo odd L (L.take a ++ [one] ++ L.drop b)
  | cut {a : Nat} : Spo odd L (L.take a ++ L.drop (a + 1))
  | dbl {a : Nat} : Spo odd L (L.take (a + 1) ++ L.drop a)
  | turn {a t : Nat} : t ≤ 2 → Spo odd L (L.take a ++ ((L.drop a).take t).reverse ++ L.drop (a + 2))
  | stop {a : Nat} : Spo odd L (L.take (a + 1))
  | more {one : Str} : one ∈ odd → Spo odd L (L ++ [one])
  | sign {a h q sg : Nat} {line : Str} : L[a]? = some line → Spo odd L (L.take a ++ [L2.cutS line none (some ((h : Nat) : Int)) ++ (⟨#[sg]⟩ : Str) ++ L2.cutS line (some ((h + q : Nat) : Int)) none] ++ L.drop (a + 1))
theorem Spo.ms {odd L M : List Str} (h : Spo odd L M) {f : Str → Nat} {m : Nat} (ho : ∀ x ∈ odd, f x ≤ m) (hl : ∀ x ∈ L, f x ≤ m) (hf : ∀ (z : Str) (h q sg : Nat), f (L2.cutS z none (some ((h : Nat) : Int)) ++ (⟨#[sg]⟩ : Str) ++ L2.cutS z (some ((h + q : Nat) : Int)) none) ≤ f z + 1) :
    msL f M ≤ msL f L + m + 1 ∧ ∀ x ∈ M, f x ≤ m + 1 := by
  have sp := ms_split f L
  have dr := fun a => ms_drop hl a
  have mt : ∀ (k : Nat), ∀ x ∈ L.take k, f x ≤ m + 1 := fun k x hx => Nat.le_succ_of_le (hl x (List.mem_of_mem_take hx))
  have md : ∀ (k : Nat), ∀ x ∈ L.drop k, f x ≤ m + 1 := fun k x hx => Nat.le_succ_of_le (hl x (List.mem_of_mem_drop hx))
  have both : ∀ (A B : List Str), (∀ x ∈ A, f x ≤ m + 1) → (∀ x ∈ B, f x ≤ m + 1) → ∀ x ∈ A ++ B, f x ≤ m + 1 := fun A B h1 h2 x hx => (List.mem_append.mp hx).elim (h1 x) (h2 x)
  cases h with
  | @put a b one h1 h2 =>
    have := ho one h1
    refine ⟨?_, both _ _ (both _ _ (mt a) (fun x hx => by rw [List.mem_singleton.mp hx]; omega)) (md b)⟩
    rw [ms_app, ms_app, ms_one]
    have h3 := sp a
    have h4 := (dr a).1
    rcases h2 with rfl | rfl <;> omega
  | @cut a =>
    refine ⟨?_, both _ _ (mt a) (md _)⟩
    rw [ms_app]
    have h3 := sp a
    have h4 := (dr a).1
    omega
  | @dbl a =>
    refine ⟨?_, both _ _ (mt _) (md _)⟩
    rw [ms_app]
    have h3 := sp (a + 1)
    have h4 := (dr a).2
    omega
  | @turn a t ht =>
    refine ⟨?_, both _ _ (both _ _ (mt a) (fun x hx => md a x (List.mem_of_mem_take (List.mem_reverse.mp hx)))) (md _)⟩
    rw [ms_app, ms_app, ms_rev]
    have h1 := sp a
    have h2 := ms_split f (L.drop a) t
    rw [List.drop_drop] at h2
    have h3 := (dr a).1
    have h4 := (dr (a + 1)).1
    have h5 : msL f (L.drop (a + 2)) ≤ msL f (L.drop (a + t)) := by
      have : t = 0 ∨ t = 1 ∨ t = 2 := by omega
      rcases this with rfl | rfl | rfl
      · exact Nat.le_trans h4 h3
      · exact h4
      · exact Nat.le_refl _
    omega
  | @stop a => exact ⟨by have := sp (a + 1); omega, mt _⟩
  | @more one h1 =>
    have := ho one h1
    refine ⟨by rw [ms_app, ms_one]; omega, both _ _ (fun x hx => Nat.le_succ_of_le (hl x hx)) (fun x hx => by rw [List.mem_singleton.mp hx]; omega)⟩
  | @sign a h q sg line hline =>
    have h0 := hl line (List.mem_of_getElem? hline)
    have h1 := hf line h q sg
    refine ⟨?_, both _ _ (both _ _ (mt a) (fun x hx => by rw [List.mem_singleton.mp hx]; omega)) (md _)⟩
    rw [ms_app, ms_app, ms_one]
    have h3 := sp a
    have h4 := (dr a).1
    omega
theorem seq_join {x rest : DTS} {D0 : DEnds} {env : En} {w : W} (Inv : En → W → Prop) (H : ∀ e v, Inv e v → rest D0 e v) (h : ∀ N : En → W → Prop, (∀ e v, Inv e v → N e v) → x { D0 with nx := N } env w) : dSeq x rest D0 env w := h (rest D0) H
end DL
namespace DL
open PySem PySem.Spec PyProof.Rows L2
def depT (P : Parts) : Tab Int := P.bn.map fun e => (e.1, ((way P.sc e.2.1).length : Int))
def costT (P : Parts) (c : Tab Int) : Tab Int := ((keysN P.bn).filter fun b => decide (b ∈ keysN c)).map fun b => (b, valI c b)
def frcB (P : Parts) (c : Tab Int) (b : Str) : Bool := decide (b ∈ keysN (costT P c)) && (decide (b ∈ barredN P) || (confN P).any fun q => (decide (q.1 = b) && !decide (q.2 ∈ keysN (costT P c))) || (decide (q.2 = b) && !decide (q.1 ∈ keysN (costT P c))))
def freeT (P : Parts) (c : Tab Int) : Tab Int := (costT P c).filter fun e => !frcB P c e.1
noncomputable def keptS (P : Parts) (c : Tab Int) : List Str := keepC (nbF (confN P) (freeT P c)) (pickC (nbF (confN P) (freeT P c)) (ordF (depT P) (keysN (freeT P c))) [] (valI (freeT P c)))
theorem costT_keys (P : Parts) (c : Tab Int) : keysN (costT P c) = (keysN P.bn).filter fun b => decide (b ∈ keysN c) := by
  show List.map _ (List.map _ _) = _
  rw [List.map_map]
  exact List.map_id _
theorem costT_mem {P : Parts} {c : Tab Int} {b : Str} : b ∈ keysN (costT P c) ↔ b ∈ keysN P.bn ∧ b ∈ keysN c := by
  rw [costT_keys, List.mem_filter, decide_eq_true_eq]
theorem costT_nodup {P : Parts} (o : WF P) (c : Tab Int) : (keysN (costT P c)).Nodup := by
  rw [costT_keys]
  exact o.bnd.sublist List.filter_sublist
theorem costT_len (P : Parts) (c : Tab Int) : (costT P c).length ≤ P.bn.length := by
  unfold costT
  rw [List.length_map]
  exact Nat.le_trans (List.length_filter_le _ _) (Nat.le_of_eq (len_keysN _))
theorem Free.sub {P : Parts} {K L : List Str} (f : Free P L) (h : ∀ b ∈ K, b ∈ L) : Free P K := ⟨fun b hb => f.bar b (h b hb), fun a ha b hb => f.con a (h a ha) b (h b hb)⟩
structure St1 (w w1 : W) (x : Addr) (o : MO) : Prop where
  n : w1.n = w.n
  e : w1.e = w.e
  at_ : w1.m x = some o
  ot : ∀ a, a ≠ x → w1.m a = w.m a
theorem St1.put {w w1 : W} {x : Addr} {o : MO} (s : St1 w w1 x o) (o' : MO) : St1 w (w1.put x o') x o' := ⟨s.n, s.e, W.put_at, fun a h => (W.put_ne h).trans (s.ot a h)⟩
section
variable (a1 a2 a3 a4 a5 a6 a7 a8 a9 : D)
theorem f1 : putFD "bindings" a1 ([] : List (Str × D)) = ([("bindings", a1)] : List (Str × D)) := by kernel_rfl
theorem f2 : putFD "depths" a2 ([("bindings", a1)] : List (Str × D)) = ([("bindings", a1), ("depths", a2)] : List (Str × D)) := by kernel_rfl
theorem f3 : putFD "pairs" a3 ([("bindings", a1), ("depths", a2)] : List (Str × D)) = ([("bindings", a1), ("depths", a2), ("pairs", a3)] : List (Str × D)) := by kernel_rfl
theorem f4 : putFD "barred" a4 ([("bindings", a1), ("depths", a2), ("pairs", a3)] : List (Str × D)) = ([("bindings", a1), ("depths", a2), ("pairs", a3), ("barred", a4)] : List (Str × D)) := by kernel_rfl
theorem f5 : putFD "costs" a5 ([("bindings", a1), ("depths", a2), ("pairs", a3), ("barred", a4)] : List (Str × D)) = ([("bindings", a1), ("depths", a2), ("pairs", a3), ("barred", a4), ("costs", a5)] : List (Str × D)) := by kernel_rfl
theorem f6 : putFD "forced" a6 ([("bindings", a1), ("depths", a2), ("pairs", a3), ("barred", a4), ("costs", a5)] : List (Str × D)) = ([("bindings", a1), ("depths", a2), ("pairs", a3), ("barred", a4), ("costs", a5), ("forced", a6)] : List (Str × D)) := by kernel_rfl
theorem f7 : putFD "free" a7 ([("bindings", a1), ("depths", a2), ("pairs", a3), ("barred", a4), ("costs", a5), ("forced", a6)] : List (Str × D)) = ([("bindings", a1), ("depths", a2), ("pairs", a3), ("barred", a4), ("costs", a5), ("forced", a6), ("free", a7)] : List (Str × D)) := by kernel_rfl
end
end DL
namespace DL
open PySem PySem.Spec PyProof.Rows L2
end DL
namespace DL
open PySem PySem.Spec PyProof.Rows L2
def paidS (P : Parts) (c : Tab Int) (K : List Str) : List Str := (sortT (keysN (costT P c))).filter fun b => !decide (b ∈ K)
section
variable {gd : DTG} {te : DTE} {vs : List Nat} {env : En} {w : W} {Q : DK} {fin : List D → W → DK → Prop}
end
end DL
namespace DL
open PySem PySem.Spec PyProof.Rows L2
structure AsgOk (P : Parts) (ks : List Str) : Prop where
  nd : ks.Nodup
  ky : ∀ b ∈ ks, b ∈ keysN P.bn
  us : (usedN P).length ≤ 800
  fw : ks.length ≤ 100
noncomputable def goneS (P : Parts) (c : Tab Int) : List Str := paidS P c (keptS P c)
theorem gone_ok {P : Parts} (o : WF P) {c : Tab Int} (h62 : P.bn.length ≤ 62) (hu : (usedN P).length ≤ 800) : AsgOk P (goneS P c) := by
  refine ⟨((sortT_perm _).nodup_iff.mpr (costT_nodup o c)).sublist List.filter_sublist, fun b hb => (costT_mem.mp (mem_sortT.mp (List.mem_filter.mp hb).1)).1, hu, ?_⟩
  refine Nat.le_trans (List.length_filter_le _ _) ?_
  rw [sortT_len, len_keysN]
  have := costT_len P c
  omega
end DL
namespace DL
open PySem PySem.Spec PyProof.Rows L2
end DL
namespace DL
open PySem PySem.Spec PyProof.Rows L2
end DL
namespace DL
open PySem PySem.Spec PyProof.Rows L2
structure Round (P : Parts) (es : List D) : Prop where
  len : es.length ≤ 5
  ok : ∀ e ∈ es, pl e = true ∧ ∀ xs, e = .tup xs → xs.length ≤ 1000
  back : ∃ P', runN P es 0 = .inl P' ∧ PP P' P
theorem Rp.tb {t : Tb} (h : ∀ e ∈ t, wordS e.1 = true ∧ wordS e.2.1 = true ∧ wordS e.2.2 = true) (hl : t.length ≤ 200) : Rp 2 5600 (.dic (tbK t)) :=
  (Rp.dic (f := DL.pD) (k := 1) (n := 18) fun e he => ⟨(h e he).1, Rp.pD (h e he).2.1 (h e he).2.2⟩).mono (by decide) (by have : t.length * (8 + 18 + 2) ≤ 200 * 28 := Nat.mul_le_mul hl (by decide); omega)
theorem Rp.sc {sc : Sc} (o : ScOk sc) (hl : sc.length ≤ 200) : Rp 2 5600 (.dic (scK sc)) :=
  (Rp.dic (f := oD) (k := 0) (n := 8) fun e he => ⟨o.wd e.1 (key_of he), by
    obtain ⟨s, p⟩ := e
    cases p with
    | none => exact (Rp.of (by decide +kernel) : Rp 0 8 D.non)
    | some y => exact Rp.str (o.wd y (o.cl s y (lk_of_mem o.nd he)))⟩).mono (by decide) (by have : sc.length * (8 + 8 + 2) ≤ 200 * 18 := Nat.mul_le_mul hl (by decide); omega)
structure Frsh (P : Parts) : Prop where
  n1 : ("n1" : Str) ∉ keysN P.sc
  b9 : ("b9" : Str) ∉ keysN P.bn
  u9 : ("u9" : Str) ∉ keysN P.us
  v9 : ("u9" : Str) ∉ keysN P.ou
abbrev e2 (k a : Str) : D := .tup [.str k, .str a]
abbrev e3 (k a b : Str) : D := .tup [.str k, .str a, .str b]
abbrev e4 (k a b c : Str) : D := .tup [.str k, .str a, .str b, .str c]
section
variable {P : Parts} (o : WF P) (f : Frsh P) {s : Str} (hs : s ∈ keysN P.sc)
include o f
end
theorem Round.of {P : Parts} {es : List D} (len : es.length ≤ 5) (ok : ∀ e ∈ es, pl e = true ∧ ∀ xs, e = .tup xs → xs.length ≤ 1000) (h : runN P es 0 = .inl P) : Round P es := ⟨len, ok, P, h, PP.rfl⟩
theorem Drawn.sz {P : Parts} (d : Drawn P) : Sz P 8 := by
  obtain ⟨z1, z2, z3, z4, z5⟩ := d.sizes
  exact ⟨z1, z2, by omega, by omega⟩
end DL
namespace DL
open PySem PySem.Spec PyProof.Rows L2
end DL
namespace DL
open PySem PySem.Spec PyProof.Rows L2
structure Ent where
  P : Parts
  c : Tab Int
  a : Int
def entF (e : Ent) : List (Str × D) := [("content", progD e.P), ("costs", .dic (mK .int e.c)), ("amount", .int e.a)]
def entD (e : Ent) : D := .obj "Entry" (entF e)
def bkD (t : Tab Ent) : D := .dic (mK entD t)
structure Rg where
  en : Tab Ent
  ms : Tab (Tab Ent)
  ev : List Str
def Rg.log (S : Rg) (x : Str) : Rg := { S with ev := S.ev ++ [x] }
def rgF (e k v : Addr) : List (Str × D) := [("entries", .ref e), ("marks", .ref k), ("events", .ref v)]
structure RgM (m0 m : Mem) (d dx e k v : Addr) (S : Rg) : Prop where
  keep : ∀ a o, m0 a = some o → m a = some o
  hd : m d = some (.ins "Registry" dx (rgF e k v))
  he : m e = some (.dic (mK entD S.en))
  hk : m k = some (.dic (mK bkD S.ms))
  hv : m v = some (.lst (S.ev.map .str))
  fd : m0 d = none
  fe : m0 e = none
  fk : m0 k = none
  fv : m0 v = none
  nek : e ≠ k
def RgAt (m0 m : Mem) (d : Addr) (S : Rg) : Prop := ∃ dx e k v, RgM m0 m d dx e k v S
theorem rg_keep {m0 m : Mem} {o : MO} {a0 : Addr} (h : ∀ a o, m0 a = some o → m a = some o) (f : m0 a0 = none) : ∀ a o', m0 a = some o' → updM m a0 o a = some o' := fun a o' ha => by
  rw [updM_ne (fun z => by rw [z, f] at ha; cases ha)]
  exact h a o' ha
section
variable {m0 m : Mem} {d dx e k v : Addr} {S : Rg}
theorem RgM.nde (h : RgM m0 m d dx e k v S) : d ≠ e := fun z => by have := h.hd; rw [z, h.he] at this; cases this
theorem RgM.ndk (h : RgM m0 m d dx e k v S) : d ≠ k := fun z => by have := h.hd; rw [z, h.hk] at this; cases this
theorem RgM.ndv (h : RgM m0 m d dx e k v S) : d ≠ v := fun z => by have := h.hd; rw [z, h.hv] at this; cases this
theorem RgM.nev (h : RgM m0 m d dx e k v S) : e ≠ v := fun z => by have := h.he; rw [z, h.hv] at this; cases this
theorem RgM.nkv (h : RgM m0 m d dx e k v S) : k ≠ v := fun z => by have := h.hk; rw [z, h.hv] at this; cases this
theorem RgM.putV (h : RgM m0 m d dx e k v S) (ev : List Str) : RgM m0 (updM m v (.lst (ev.map .str))) d dx e k v { S with ev := ev } :=
  ⟨rg_keep h.keep h.fv, (updM_ne h.ndv).trans h.hd, (updM_ne h.nev).trans h.he, (updM_ne h.nkv).trans h.hk, updM_same, h.fd, h.fe, h.fk, h.fv, h.nek⟩
theorem RgM.putE (h : RgM m0 m d dx e k v S) (en : Tab Ent) : RgM m0 (updM m e (.dic (mK entD en))) d dx e k v { S with en := en } :=
  ⟨rg_keep h.keep h.fe, (updM_ne h.nde).trans h.hd, updM_same, (updM_ne h.nek.symm).trans h.hk, (updM_ne h.nev.symm).trans h.hv, h.fd, h.fe, h.fk, h.fv, h.nek⟩
theorem RgM.putK (h : RgM m0 m d dx e k v S) (ms : Tab (Tab Ent)) : RgM m0 (updM m k (.dic (mK bkD ms))) d dx e k v { S with ms := ms } :=
  ⟨rg_keep h.keep h.fk, (updM_ne h.ndk).trans h.hd, (updM_ne h.nek).trans h.he, updM_same, (updM_ne h.nkv.symm).trans h.hv, h.fd, h.fe, h.fk, h.fv, h.nek⟩
theorem RgM.newE (h : RgM m0 m d dx e k v S) {p : Addr} (hp : m p = none) (en : Tab Ent) : RgM m0 (updM (updM m p (.dic (mK entD en))) d (.ins "Registry" dx (rgF p k v))) d dx p k v { S with en := en } := by
  have hpd : p ≠ d := fun z => by rw [z, h.hd] at hp; cases hp
  have hpk : p ≠ k := fun z => by rw [z, h.hk] at hp; cases hp
  have hpv : p ≠ v := fun z => by rw [z, h.hv] at hp; cases hp
  have f0 : m0 p = none := by
    cases q : m0 p with
    | none => rfl
    | some o => rw [h.keep p o q] at hp; cases hp
  exact ⟨rg_keep (rg_keep h.keep f0) h.fd, updM_same, (updM_ne hpd).trans updM_same, (updM_ne h.ndk.symm).trans ((updM_ne hpk.symm).trans h.hk), (updM_ne h.ndv.symm).trans ((updM_ne hpv.symm).trans h.hv), h.fd, f0, h.fk, h.fv, hpk⟩
def rgD (S : Rg) : D := .obj "Registry" [("entries", bkD S.en), ("marks", .dic (mK bkD S.ms)), ("events", .lst (S.ev.map .str))]
def RgIs (w : W) (x : D) (S : Rg) : Prop := (∃ m0 d, x = .ref d ∧ RgAt m0 w.m d S) ∨ x = rgD S
theorem RgM.beside (h : RgM m0 m d dx e k v S) {p : Addr} {o : MO} (hp : m p = none) : RgM m0 (updM m p o) d dx e k v S ∧ RgM (updM m0 p o) (updM m p o) d dx e k v S := by
  have g : ∀ {a : Addr} {u : MO}, m a = some u → updM m p o a = some u := fun {a u} ha => by
    rw [updM_ne (fun z => by rw [z, hp] at ha; cases ha)]
    exact ha
  have n : ∀ {a : Addr} {u : MO}, m a = some u → m0 a = none → updM m0 p o a = none := fun {a u} ha h0 => by
    rw [updM_ne (fun z => by rw [z, hp] at ha; cases ha)]
    exact h0
  refine ⟨⟨fun a u ha => g (h.keep a u ha), g h.hd, g h.he, g h.hk, g h.hv, h.fd, h.fe, h.fk, h.fv, h.nek⟩, ⟨fun a u ha => ?_, g h.hd, g h.he, g h.hk, g h.hv, n h.hd h.fd, n h.he h.fe, n h.hk h.fk, n h.hv h.fv, h.nek⟩⟩
  by_cases z : a = p
  · subst z
    rw [updM_same] at ha ⊢
    exact ha
  · rw [updM_ne z] at ha ⊢
    exact h.keep a u ha
theorem RgM.without {m1 : Mem} {p : Addr} {o : MO} (h : RgM (updM m0 p o) m1 d dx e k v S) (h0 : m0 p = none) : RgM m0 (delM m1 p) d dx e k v S := by
  have at_ : m1 p = some o := h.keep p o updM_same
  have f : ∀ {a : Addr}, updM m0 p o a = none → a ≠ p ∧ m0 a = none := fun {a} ha => by
    by_cases z : a = p
    · rw [z, updM_same] at ha; cases ha
    · rw [updM_ne z] at ha; exact ⟨z, ha⟩
  have g : ∀ {a : Addr} {u : MO}, a ≠ p → m1 a = some u → delM m1 p a = some u := fun {a u} z ha => by rw [delM_ne z]; exact ha
  refine ⟨fun a u ha => ?_, g (f h.fd).1 h.hd, g (f h.fe).1 h.he, g (f h.fk).1 h.hk, g (f h.fv).1 h.hv, (f h.fd).2, (f h.fe).2, (f h.fk).2, (f h.fv).2, h.nek⟩
  have z : a ≠ p := fun z => by rw [z, h0] at ha; cases ha
  rw [delM_ne z]
  exact h.keep a u (by rw [updM_ne z]; exact ha)
end
theorem RgAt.weak {m0 m : Mem} {d : Addr} {S : Rg} {p : Addr} {o : MO} (h : RgAt (updM m0 p o) m d S) (h0 : m0 p = none) : RgAt m0 m d S := by
  obtain ⟨dx, e, k, v, h⟩ := h
  have f : ∀ {a : Addr}, updM m0 p o a = none → m0 a = none := fun {a} ha => by
    by_cases z : a = p
    · rw [z, updM_same] at ha; cases ha
    · rw [updM_ne z] at ha; exact ha
  refine ⟨dx, e, k, v, fun a u ha => h.keep a u ?_, h.hd, h.he, h.hk, h.hv, f h.fd, f h.fe, f h.fk, f h.fv, h.nek⟩
  rw [updM_ne (fun z => by rw [z, h0] at ha; cases ha)]
  exact ha
theorem RgAt.without {m0 m1 : Mem} {d : Addr} {S : Rg} {p : Addr} {o : MO} (h : RgAt (updM m0 p o) m1 d S) (h0 : m0 p = none) : RgAt m0 (delM m1 p) d S :=
  let ⟨dx, e, k, v, h⟩ := h
  ⟨dx, e, k, v, h.without h0⟩
theorem RgAt.beside {m0 m : Mem} {d : Addr} {S : Rg} {p : Addr} {o : MO} (h : RgAt m0 m d S) (hp : m p = none) : RgAt (updM m0 p o) (updM m p o) d S :=
  let ⟨dx, e, k, v, h⟩ := h
  ⟨dx, e, k, v, (h.beside hp).2⟩
theorem RgAt.free {m0 m : Mem} {d : Addr} {S : Rg} {p : Addr} (h : RgAt m0 m d S) (hp : m p = none) : m0 p = none := by
  obtain ⟨dx, e, k, v, h⟩ := h
  cases q : m0 p with
  | none => rfl
  | some o => rw [h.keep p o q] at hp; cases hp
theorem RgAt.keep {m0 m : Mem} {d : Addr} {S : Rg} (h : RgAt m0 m d S) {a : Addr} {o : MO} (ha : m0 a = some o) : m a = some o :=
  let ⟨_, _, _, _, h⟩ := h
  h.keep a o ha
theorem RgAt.other {m0 m : Mem} {d : Addr} {S : Rg} (h : RgAt m0 m d S) {a : Addr} {o : MO} (o' : MO) (ha : m0 a = some o) : RgAt (updM m0 a o') (updM m a o') d S := by
  obtain ⟨dx, e, k, v, h⟩ := h
  have n : ∀ {b : Addr}, m0 b = none → b ≠ a := fun {b} hb z => by rw [z, ha] at hb; cases hb
  refine ⟨dx, e, k, v, fun b u hb => ?_, (updM_ne (n h.fd)).trans h.hd, (updM_ne (n h.fe)).trans h.he, (updM_ne (n h.fk)).trans h.hk, (updM_ne (n h.fv)).trans h.hv, (updM_ne (n h.fd)).trans h.fd, (updM_ne (n h.fe)).trans h.fe, (updM_ne (n h.fk)).trans h.fk, (updM_ne (n h.fv)).trans h.fv, h.nek⟩
  by_cases z : b = a
  · subst z
    rw [updM_same] at hb ⊢
    exact hb
  · rw [updM_ne z] at hb ⊢
    exact h.keep b u hb
inductive CmdTo where
  | err (C : Str) (fs : Option (List (Str × D))) (S : Rg)
  | ok (r : D) (S : Rg)
def CmdTo.end_ : CmdTo → CmdTo
  | .err C fs S => .err C fs (S.log "failed")
  | .ok r S => .ok r (S.log "done")
def CmdTo.st : CmdTo → Rg
  | .err _ _ S => S
  | .ok _ S => S
def RgK (w : W) (m0 : Mem) (d : Addr) (Q : DK) : CmdTo → Prop
  | .err C fs S => ∀ env m1, RgAt m0 m1 d S → w.e env C fs m1 w.n
  | .ok r S => ∀ m1, RgAt m0 m1 d S → Q r { w with m := m1 }
def lamN (x : Str) : MO := .tab (x ++ ".<locals>.<lambda>")
def strsD : List D → List Str
  | [] => []
  | .str s :: r => s :: strsD r
  | _ :: r => strsD r
def seqD2 : D → List D
  | .lst xs => xs
  | .tup xs => xs
  | _ => []
def newP (r rs : D) : Option Parts := match r with
  | .str s => if wordS s = true ∧ isWords rs = true then some (sortP ⟨[(s, none)], [], [], [], strsD (seqD2 rs)⟩) else none
  | _ => none
def nameTo (n : D) (ks : List Str) : Option Str := match n with
  | .str s => if wordS s = true then (if s ∈ ks then some "DuplicateName" else none) else some "InvalidWord"
  | _ => some "InvalidWord"
def strD : D → Str
  | .str s => s
  | _ => ""
def scopesD (r : D) : D := match r with
  | .str s => .dic [(.inr s, .non)]
  | _ => .non
def createTo (S : Rg) (n r rs : D) : CmdTo := match nameTo n (keysN S.en) with
  | some C => .err C none S
  | none => match newP r rs with
    | none => .err "InvalidProgram" none S
    | some P => .ok .non { S with en := S.en ++ [(strD n, ⟨P, [], 0⟩)] }
def hasN (n : D) (ks : List Str) : Bool := match n with
  | .str s => decide (s ∈ ks)
  | _ => false
def removeTo (S : Rg) (n : D) : CmdTo := if hasN n (keysN S.en) = true then .ok .non { S with en := outT S.en (strD n) } else .err "UnknownName" none S
def markTo (S : Rg) (n : D) : CmdTo := match nameTo n (keysN S.ms) with
  | some C => .err C none S
  | none => .ok .non { S with ms := S.ms ++ [(strD n, S.en)] }
def rbackTo (S : Rg) (n : D) : CmdTo := if hasN n (keysN S.ms) = true then .ok .non { S with en := (lk S.ms (strD n)).getD [] } else .err "UnknownMark" none S
theorem nameTo_none {n : D} {ks : List Str} (h : nameTo n ks = none) : ∃ s, n = .str s ∧ s ∉ ks := by
  cases n with
  | str s =>
    have h : (if wordS s = true then (if s ∈ ks then some ("DuplicateName" : Str) else none) else some "InvalidWord") = none := h
    refine ⟨s, rfl, fun z => ?_⟩
    split at h
    · first | (rw [if_pos z] at h; cases h) | cases h
    · cases h
  | _ => cases h
theorem RgK.inn {w : W} {m0 : Mem} {d : Addr} {Q : DK} {R : CmdTo} (h : RgK w m0 d Q R) (env : En) : RgK (w.inn env) m0 d (fun r w3 => Q r (w3.as w)) R := by
  cases R with
  | err C fs S => exact fun env2 m1 h1 => h env m1 h1
  | ok r S => exact fun m1 h1 => h m1 h1
def CmdTo.isNon : CmdTo → Prop
  | .err _ _ _ => True
  | .ok r _ => r = .non
theorem RgK.non {w : W} {m0 : Mem} {d : Addr} {Q : DK} {R : CmdTo} (h : RgK w m0 d Q R.end_) (hr : R.isNon) : RgK w m0 d (fun _ w => Q .non w) R.end_ := by
  cases R with
  | err C fs S => exact h
  | ok r S =>
    cases (show r = .non from hr)
    exact h
theorem log_len {S : Rg} {x : Str} (h : S.ev.length ≤ 10000) : (S.log x).ev.length ≤ 20000 := by
  show (S.ev ++ [x]).length ≤ 20000
  rw [List.length_append]
  show S.ev.length + 1 ≤ _
  omega
theorem removeTo_st (S : Rg) (n : D) : (removeTo S n).st.ev = S.ev := by unfold removeTo; split <;> rfl
theorem removeTo_non (S : Rg) (n : D) : (removeTo S n).isNon := by unfold removeTo; split; { exact rfl }; { exact trivial }
theorem markTo_st (S : Rg) (n : D) : (markTo S n).st.ev = S.ev := by unfold markTo; split <;> rfl
theorem markTo_non (S : Rg) (n : D) : (markTo S n).isNon := by unfold markTo; split; { exact trivial }; { exact rfl }
theorem rbackTo_st (S : Rg) (n : D) : (rbackTo S n).st.ev = S.ev := by unfold rbackTo; split <;> rfl
theorem rbackTo_non (S : Rg) (n : D) : (rbackTo S n).isNon := by unfold rbackTo; split; { exact rfl }; { exact trivial }
theorem createTo_st (S : Rg) (n r rs : D) : (createTo S n r rs).st.ev = S.ev := by unfold createTo; split; { rfl }; { split <;> rfl }
theorem createTo_non (S : Rg) (n r rs : D) : (createTo S n r rs).isNon := by unfold createTo; split; { exact trivial }; { split; { exact trivial }; { exact rfl } }
theorem strs_of_map (ws : List Str) : strsD (ws.map .str) = ws := by
  induction ws with
  | nil => rfl
  | cons a r ih => show a :: strsD (r.map .str) = _; rw [ih]
theorem seq_words {rs : D} {ws : List Str} (h : wordsOf rs ws) : strsD (seqD2 rs) = ws := by
  rcases h with rfl | rfl <;> exact strs_of_map ws
theorem one_wf {s : Str} {ws : List Str} (hs : wordS s = true) (hw : ∀ x ∈ ws, wordS x = true) (hl : ws.length ≤ 1000) : WF ⟨[(s, none)], [], [], [], ws⟩ :=
  ⟨OrdSc.ok (.root s) (fun x hx => by rw [List.mem_singleton.mp hx]; exact hs), .nil, nofun, .nil, nofun, .nil, nofun, nofun, hw, by show 1 ≤ 1000; decide, Nat.zero_le _, Nat.zero_le _, Nat.zero_le _, hl⟩
theorem newP_some {r rs : D} {P : Parts} (ha : Arg rs) (h : newP r rs = some P) : ∃ s ws, r = .str s ∧ WF ⟨[(s, none)], [], [], [], ws⟩ ∧ wordsOf rs ws ∧ P = sortP ⟨[(s, none)], [], [], [], ws⟩ := by
  cases r with
  | str s =>
    have h : (if wordS s = true ∧ isWords rs = true then some (sortP ⟨[(s, none)], [], [], [], strsD (seqD2 rs)⟩) else none) = some P := h
    split at h
    · rename_i c
      obtain ⟨ws, h1, h2⟩ := words_of c.2
      have hl : ws.length ≤ 1000 := by
        rcases h1 with rfl | rfl
        · have := ha.sq _ (.inl rfl); rw [List.length_map] at this; exact this
        · have := ha.sq _ (.inr rfl); rw [List.length_map] at this; exact this
      refine ⟨s, ws, rfl, one_wf c.1 h2 hl, h1, ?_⟩
      rw [seq_words h1] at h
      exact (Option.some.inj h).symm
    · cases h
  | _ => cases h
theorem newP_none {r rs : D} (h : newP r rs = none) (ha : Arg rs) (hs : Arg (scopesD r)) (he : Arg (.dic [])) : isProg (scopesD r) (.dic []) (.dic []) (.dic []) rs = false := by
  cases hp : isProg (scopesD r) (.dic []) (.dic []) (.dic []) rs with
  | false => rfl
  | true =>
    obtain ⟨P, h1, _, _, _, h5, o⟩ := prog_of hp hs he he he ha
    exfalso
    cases r with
    | str s =>
      have h : (if wordS s = true ∧ isWords rs = true then some (sortP ⟨[(s, none)], [], [], [], strsD (seqD2 rs)⟩) else none) = none := h
      have hw : isWords rs = true := (words_all h5 o.rwd).1
      have hk : s ∈ keysN P.sc := by
        have h1 : D.dic [(.inr s, .non)] = .dic (scK P.sc) := h1
        injection h1 with h1
        have : (Sum.inr s : Key) ∈ (scK P.sc).map (·.1) := by rw [← h1]; exact List.mem_singleton.mpr rfl
        rw [show (scK P.sc).map (·.1) = (keysN P.sc).map Sum.inr from mK_keys oD P.sc] at this
        obtain ⟨x, hx, e⟩ := List.mem_map.mp this
        cases e
        exact hx
      rw [if_pos ⟨o.sc.wd s hk, hw⟩] at h
      cases h
    | _ => cases h1
theorem npK_mKr {α : Type} (f : α → D) (h : ∀ a, npD (f a) = true) : ∀ t : Tab α, npK (mK f t) = true
  | [] => rfl
  | e :: r => by
    show (npD (f e.2) && npK (mK f r)) = true
    rw [h, npK_mKr f h r]
    rfl
theorem npL_mapr {α : Type} (f : α → D) (h : ∀ a, npD (f a) = true) : ∀ t : List α, npL (t.map f) = true
  | [] => rfl
  | e :: r => by
    show (npD (f e) && npL (r.map f)) = true
    rw [h, npL_mapr f h r]
    rfl
theorem np_prog (P : Parts) : npD (progD P) = true := by
  have h1 : npK (scK P.sc) = true := npK_mKr oD (fun a => by cases a <;> rfl) _
  have h2 : ∀ t : Tb, npK (tbK t) = true := fun t => npK_mKr pD (fun _ => rfl) t
  have h3 : npL (P.rs.map .str) = true := npL_mapr D.str (fun _ => rfl) _
  show (npK (scK P.sc) && (npK (tbK P.bn) && (npK (tbK P.us) && (npK (tbK P.ou) && (npL (P.rs.map .str) && true))))) = true
  rw [h1, h2, h2, h2, h3]
  rfl
theorem np_ent (e : Ent) : npD (entD e) = true := by
  have h1 : npK (mK .int e.c) = true := npK_mKr D.int (fun _ => rfl) _
  show (npD (progD e.P) && (npK (mK .int e.c) && (true && true))) = true
  rw [np_prog, h1]
  rfl
theorem np_bk (t : Tab Ent) : npD (bkD t) = true := npK_mKr entD np_ent t
theorem RgAt.held {m0 : Mem} {w : W} {d : Addr} {S : Rg} (h : RgAt m0 w.m d S) : SnP w (.ref d) (rgD S) := by
  obtain ⟨dx, e, k, v, h⟩ := h
  exact .ins h.hd (.cons (.dic h.he (SnPK.same (npK_mKr entD np_ent _))) (.cons (.dic h.hk (SnPK.same (npK_mKr bkD np_bk _))) (.cons (.lst h.hv (SnPL.same (npL_mapr D.str (fun _ => rfl) _))) .nil)))
end DL
namespace DL
open PySem PySem.Spec PyProof.Rows L2
inductive Cmd59 where
  | create (n r rs : D)
  | remove (n : D)
def cmdD : Cmd59 → D
  | .create n r rs => .tup [.str "create", n, r, rs]
  | .remove n => .tup [.str "remove", n]
def cmdTo (S : Rg) : Cmd59 → CmdTo
  | .create n r rs => createTo S n r rs
  | .remove n => removeTo S n
def cmdN : Cmd59 → Str
  | .create _ _ _ => "create"
  | .remove _ => "remove"
def titleC (C : Str) : Str := if C = "InvalidWord" then "word" else if C = "DuplicateName" then "duplicate" else if C = "InvalidProgram" then "program" else if C = "UnknownName" then "unknown" else "mark"
def errT : CmdTo → Str
  | .err C _ _ => titleC C
  | .ok _ _ => ""
structure Odd (d : D) : Prop where
  ar : Arg d
  sc : Arg (scopesD d)
  ty : (tyN d).isSome = true
def CmdOk : Cmd59 → Prop
  | .create n r rs => Odd n ∧ Odd r ∧ Odd rs
  | .remove n => Odd n
def booksOf (S : Rg) : Tab Parts := S.en.map fun e => (e.1, e.2.P)
theorem books_keys (S : Rg) : keysN (booksOf S) = keysN S.en := by
  unfold keysN booksOf
  rw [List.map_map]
  rfl
theorem books_lk (S : Rg) (s : Str) : lk (booksOf S) s = (lk S.en s).map (·.P) := lk_mapv (fun (_ : Str) (e : Ent) => e.P) s S.en
theorem books_out (S : Rg) (s : Str) : booksOf { S with en := outT S.en s } = outT (booksOf S) s := by
  unfold booksOf outT
  rw [List.filter_map]
  rfl
structure Rg59 (S : Rg) : Prop where
  nd : (keysN S.en).Nodup
  gd : ∀ e ∈ S.en, e.2.c = [] ∧ e.2.a = 0 ∧ WF e.2.P ∧ Ord e.2.P
  wd : ∀ s ∈ keysN S.en, wordS s = true
theorem newP_wf {r rs : D} {P : Parts} (ha : Arg rs) (h : newP r rs = some P) : WF P ∧ Ord P := by
  obtain ⟨s, ws, _, o, _, rfl⟩ := newP_some ha h
  exact ⟨o.sort, ord_sort _⟩
theorem nameTo_word {n : D} {ks : List Str} (h : nameTo n ks = none) : ∃ s, n = .str s ∧ s ∉ ks ∧ wordS s = true := by
  obtain ⟨s, rfl, hs⟩ := nameTo_none h
  refine ⟨s, rfl, hs, ?_⟩
  cases hw : wordS s with
  | true => rfl
  | false =>
    have h : (if wordS s = true then (if s ∈ ks then some ("DuplicateName" : Str) else none) else some "InvalidWord") = none := h
    rw [hw, if_neg (by decide)] at h
    cases h
theorem cmdTo_ok {S : Rg} {c : Cmd59} (g : Rg59 S) (hc : CmdOk c) : Rg59 (cmdTo S c).st ∧ (cmdTo S c).st.en.length ≤ S.en.length + 1 ∧ (cmdTo S c).st.ev = S.ev ∧ (cmdTo S c).st.ms = S.ms := by
  cases c with
  | create n r rs =>
    show Rg59 (createTo S n r rs).st ∧ _
    show _ ∧ (createTo S n r rs).st.en.length ≤ _ ∧ (createTo S n r rs).st.ev = _ ∧ (createTo S n r rs).st.ms = _
    unfold createTo
    cases hn : nameTo n (keysN S.en) with
    | some C => exact ⟨g, Nat.le_succ _, rfl, rfl⟩
    | none =>
      cases hp : newP r rs with
      | none => exact ⟨g, Nat.le_succ _, rfl, rfl⟩
      | some P =>
        obtain ⟨s, rfl, hs, hw⟩ := nameTo_word hn
        obtain ⟨o, od⟩ := newP_wf hc.2.2.ar hp
        refine ⟨⟨?_, fun e he => ?_, fun x hx => ?_⟩, ?_, rfl, rfl⟩
        · show (keysN (S.en ++ [(s, _)])).Nodup
          rw [keysN_append]
          refine List.nodup_append.mpr ⟨g.nd, List.pairwise_singleton _ _, fun a ha b hb z => ?_⟩
          have hb : b ∈ [s] := hb
          rw [List.mem_singleton.mp hb] at z
          exact hs (z ▸ ha)
        · have he : e ∈ S.en ++ [(s, ⟨P, [], 0⟩)] := he
          rcases List.mem_append.mp he with he | he
          · exact g.gd e he
          · rw [List.mem_singleton.mp he]
            exact ⟨rfl, rfl, o, od⟩
        · have hx : x ∈ keysN (S.en ++ [(s, ⟨P, [], 0⟩)]) := hx
          rw [keysN_append] at hx
          rcases List.mem_append.mp hx with hx | hx
          · exact g.wd x hx
          · have hx : x ∈ [s] := hx
            rw [List.mem_singleton.mp hx]
            exact hw
        · show (S.en ++ [_]).length ≤ _
          rw [List.length_append]
          exact Nat.le_refl _
  | remove n =>
    show Rg59 (removeTo S n).st ∧ (removeTo S n).st.en.length ≤ _ ∧ (removeTo S n).st.ev = _ ∧ (removeTo S n).st.ms = _
    unfold removeTo
    split
    · refine ⟨⟨?_, fun e he => ?_, fun x hx => ?_⟩, ?_, rfl, rfl⟩
      · show (keysN (outT S.en _)).Nodup
        rw [keys_outT]
        exact g.nd.sublist List.filter_sublist
      · exact g.gd e ((outT_sub _ _).mem he)
      · have hx : x ∈ keysN (outT S.en (strD n)) := hx
        rw [keys_outT] at hx
        exact g.wd x (List.mem_filter.mp hx).1
      · exact Nat.le_trans (outT_sub _ _).length_le (Nat.le_succ _)
    · exact ⟨g, Nat.le_succ _, rfl, rfl⟩
def errW : Option Str → Str
  | some C => titleC C
  | none => ""
theorem nameTo_err {n : D} {ks : List Str} {C : Str} (h : nameTo n ks = some C) : C = "InvalidWord" ∨ C = "DuplicateName" := by
  cases n with
  | str s =>
    have h : (if wordS s = true then (if s ∈ ks then some ("DuplicateName" : Str) else none) else some "InvalidWord") = some C := h
    split at h
    · split at h
      · cases h; exact .inr rfl
      · cases h
    · cases h; exact .inl rfl
  | _ => cases h; exact .inl rfl
def wsD : D → D
  | .lst xs => .lst xs
  | .tup xs => .tup xs
  | _ => .lst [.non]
theorem newP_bool (r rs : D) : (newP r rs).isSome = (isWord r && isWords rs) := by
  cases r with
  | str s =>
    show (if wordS s = true ∧ isWords rs = true then some (sortP ⟨[(s, none)], [], [], [], strsD (seqD2 rs)⟩) else none).isSome = (wordS s && isWords rs)
    cases wordS s <;> cases isWords rs <;> rfl
  | _ => rfl
theorem all_words (r rs : D) : (r :: seqD2 (wsD rs)).all isWord = (isWord r && isWords rs) := by
  rw [List.all_cons]
  cases rs <;> rfl
theorem pl_seq {rs : D} (h : Arg rs) : (∀ x ∈ seqD2 (wsD rs), pl x = true) ∧ (seqD2 (wsD rs)).length ≤ 1000 := by
  have hp := h.pl
  cases rs with
  | lst xs => exact ⟨fun x hx => plL_mem hp hx, h.sq _ (.inl rfl)⟩
  | tup xs => exact ⟨fun x hx => plL_mem hp hx, h.sq _ (.inr rfl)⟩
  | _ => exact ⟨fun x hx => by rw [List.mem_singleton.mp hx]; rfl, by show 1 ≤ 1000; decide⟩
theorem cmdTo_err {S S' : Rg} {c : Cmd59} {C : Str} {fs : Option (List (Str × D))} (h : cmdTo S c = .err C fs S') : fs = none ∧ (C = "InvalidWord" ∨ C = "DuplicateName" ∨ C = "InvalidProgram" ∨ C = "UnknownName") := by
  cases c with
  | create n r rs =>
    have h : createTo S n r rs = .err C fs S' := h
    unfold createTo at h
    split at h
    · rename_i C2 hn
      cases h
      rcases nameTo_err hn with rfl | rfl
      · exact ⟨rfl, .inl rfl⟩
      · exact ⟨rfl, .inr (.inl rfl)⟩
    · split at h
      · cases h; exact ⟨rfl, .inr (.inr (.inl rfl))⟩
      · cases h
  | remove n =>
    have h : removeTo S n = .err C fs S' := h
    unfold removeTo at h
    split at h
    · cases h
    · cases h; exact ⟨rfl, .inr (.inr (.inr rfl))⟩
theorem cmdTo_non {S S' : Rg} {c : Cmd59} {r : D} (h : cmdTo S c = .ok r S') : r = .non := by
  cases c with
  | create n a b =>
    have := createTo_non S n a b
    rw [show createTo S n a b = .ok r S' from h] at this
    exact this
  | remove n =>
    have := removeTo_non S n
    rw [show removeTo S n = .ok r S' from h] at this
    exact this
def oddB (d : D) : Bool := argB d && (argB (scopesD d) && (tyN d).isSome)
theorem Odd.of {d : D} (h : oddB d = true) : Odd d := by
  unfold oddB at h
  rw [Bool.and_eq_true, Bool.and_eq_true] at h
  exact ⟨Arg.of h.1, Arg.of h.2.1, h.2.2⟩
def odd59 : List D := [.str "", .str "A", .non, .int 3, .tup [.str "x"], .str "abcdefghi", .lst [.str "x"], .dic [], .str "x ", .bl true, .str "x{", .str "1a", .str "x_", .str "xA"]
def nam59 : List D := [.str "x", .str "xa", .str "abcdefg7", .str "lnorst", .str "abcdefgi"]
def rot59 : List D := [.str "top", .str "x", .str "a1"]
def wds59 : List D := [.lst [], .lst [.str "if"], .tup [.str "b", .str "a"], .lst [.str "abcdefg1", .str "abcdefg1"], .tup []]
def wdo59 : List D := [.non, .str "if", .dic [], .lst [.str "A"], .lst [.str "if", .non], .tup [.lst [.str "if"]], .lst [.str "", .str "if"], .int 5, .dic [(.inr "if", .int 1)]]
theorem odd_all : (odd59 ++ nam59 ++ rot59 ++ wds59 ++ wdo59).all oddB = true := by decide +kernel
theorem odd_in {d : D} (h : d ∈ odd59 ++ nam59 ++ rot59 ++ wds59 ++ wdo59) : Odd d := Odd.of (List.all_eq_true.mp odd_all d h)
theorem at_ex {xs : List D} {e : Int} (h0 : 0 ≤ e) (h1 : e < xs.length) : ∃ d ∈ xs, atI xs e = some d := by
  obtain ⟨k, rfl⟩ : ∃ n : Nat, e = n := ⟨e.toNat, by omega⟩
  have hk : k < xs.length := by omega
  exact ⟨xs[k], List.getElem_mem hk, atI_of h0 (by rw [Int.toNat_natCast]; exact List.getElem?_eq_getElem hk)⟩
theorem RgAt.junk {m0 m : Mem} {d : Addr} {S : Rg} (h : RgAt m0 m d S) {p : Addr} (hp : m p = none) (o : MO) : RgAt m0 (updM m p o) d S :=
  (h.beside (o := o) hp).weak (h.free hp)
def CmdTo.relog (x : Str) : CmdTo → CmdTo
  | .err C fs S => .err C fs (S.log x)
  | .ok r S => .ok r (S.log x)
theorem cmdTo_log (S : Rg) (x : Str) (c : Cmd59) : cmdTo (S.log x) c = (cmdTo S c).relog x := by
  cases c with
  | create n r rs =>
    show createTo (S.log x) n r rs = (createTo S n r rs).relog x
    unfold createTo
    show (match nameTo n (keysN S.en) with | some C => _ | none => _) = CmdTo.relog x (match nameTo n (keysN S.en) with | some C => _ | none => _)
    cases nameTo n (keysN S.en) with
    | some C => rfl
    | none =>
      cases newP r rs with
      | none => rfl
      | some P => rfl
  | remove n =>
    show removeTo (S.log x) n = (removeTo S n).relog x
    unfold removeTo
    show (if hasN n (keysN S.en) = true then _ else _) = CmdTo.relog x (if hasN n (keysN S.en) = true then _ else _)
    split <;> rfl
theorem errT_log (S : Rg) (x : Str) (c : Cmd59) : errT (cmdTo (S.log x) c) = errT (cmdTo S c) := by
  rw [cmdTo_log]
  cases cmdTo S c <;> rfl
theorem title_ne (C : Str) : titleC C ≠ "" := by
  unfold titleC
  repeat' split
  all_goals decide +kernel
theorem end_st (S : Rg) (x : Str) (c : Cmd59) (hc : CmdOk c) (g : Rg59 S) : (cmdTo (S.log x) c).end_.st = { (cmdTo S c).st with ev := S.ev ++ [x, if errT (cmdTo S c) = "" then "done" else "failed"] } := by
  have he := (cmdTo_ok g hc).2.2.1
  rw [cmdTo_log]
  cases h : cmdTo S c with
  | err C fs S2 =>
    rw [h] at he
    have he : S2.ev = S.ev := he
    have hn : ¬ (errT (.err C fs S2) = "") := title_ne C
    rw [if_neg hn]
    show ({ S2 with ev := (S2.ev ++ [x]) ++ [("failed" : Str)] } : Rg) = { S2 with ev := S.ev ++ [x, ("failed" : Str)] }
    rw [he, List.append_assoc]
    rfl
  | ok r S2 =>
    rw [h] at he
    have he : S2.ev = S.ev := he
    have hn : errT (.ok r S2) = "" := rfl
    rw [if_pos hn]
    show ({ S2 with ev := (S2.ev ++ [x]) ++ [("done" : Str)] } : Rg) = { S2 with ev := S.ev ++ [x, ("done" : Str)] }
    rw [he, List.append_assoc]
    rfl
theorem cmd_shw {c : Cmd59} (hc : CmdOk c) : Shw (cmdD c) := by
  have s : ∀ x : Str, wordS x = true → Rp 4 19000 (.str x) := fun x hx => (Rp.str hx).mono (by decide) (by decide)
  cases c with
  | create n r rs =>
    refine (Rp.tup (k := 4) (n := 19000) (xs := [.str "create", n, r, rs]) fun x hx => ?_).shw (by decide) (show 4 * (19000 + 1) ≤ 100000 by decide)
    simp only [List.mem_cons, List.not_mem_nil, or_false] at hx
    rcases hx with rfl | rfl | rfl | rfl
    · exact s "create" (by decide +kernel)
    · exact hc.1.ar.rp
    · exact hc.2.1.ar.rp
    · exact hc.2.2.ar.rp
  | remove n =>
    have hc : Odd n := hc
    refine (Rp.tup (k := 4) (n := 19000) (xs := [.str "remove", n]) fun x hx => ?_).shw (by decide) (show 2 * (19000 + 1) ≤ 100000 by decide)
    simp only [List.mem_cons, List.not_mem_nil, or_false] at hx
    rcases hx with rfl | rfl
    · exact s "remove" (by decide +kernel)
    · exact hc.ar.rp
theorem title_in (C : Str) : titleC C ∈ (["word", "duplicate", "program", "unknown", "mark"] : List Str) := by
  unfold titleC
  repeat' split
  all_goals simp
theorem errT_in (R : CmdTo) : errT R ∈ (["", "word", "duplicate", "program", "unknown", "mark"] : List Str) := by
  cases R with
  | err C fs S => exact List.mem_cons_of_mem _ (title_in C)
  | ok r S => exact List.mem_cons_self
theorem err_show {t : Str} (h : t ∈ (["", "word", "duplicate", "program", "unknown", "mark"] : List Str)) : ShowOk (.tuple [.str t, .none]) := by
  simp only [List.mem_cons, List.not_mem_nil, or_false] at h
  rcases h with rfl | rfl | rfl | rfl | rfl | rfl <;> exact ⟨by decide +kernel, by decide +kernel, by decide +kernel, fun _ => rfl⟩
def evs59 : List Str := ["create", "remove", "done", "failed"]
theorem evs_ok {x : Str} (h : x ∈ evs59) : PyData.strOk x = true := by
  have : ∀ x ∈ evs59, PyData.strOk x = true := by decide +kernel
  exact this x h
theorem cmdN_in (c : Cmd59) : cmdN c ∈ evs59 := by cases c <;> simp [cmdN, evs59]
def NamOk : Cmd59 → Prop
  | .create n _ _ => n ∈ odd59 ++ nam59
  | .remove _ => True
theorem odd_noword : odd59.all (fun d => !isWord d) = true := by decide +kernel
theorem cmdTo_nam {S : Rg} {c : Cmd59} (h : ∀ s ∈ keysN S.en, D.str s ∈ nam59) (hc : NamOk c) : ∀ s ∈ keysN (cmdTo S c).st.en, D.str s ∈ nam59 := by
  cases c with
  | create n r rs =>
    show ∀ s ∈ keysN (createTo S n r rs).st.en, _
    unfold createTo
    cases hn : nameTo n (keysN S.en) with
    | some C => exact h
    | none =>
      cases hp : newP r rs with
      | none => exact h
      | some P =>
        obtain ⟨s, rfl, hs, hw⟩ := nameTo_word hn
        intro x hx
        have hx : x ∈ keysN (S.en ++ [(s, ⟨P, [], 0⟩)]) := hx
        rw [keysN_append] at hx
        rcases List.mem_append.mp hx with hx | hx
        · exact h x hx
        · have hx : x ∈ [s] := hx
          rw [List.mem_singleton.mp hx]
          rcases List.mem_append.mp hc with hc | hc
          · have := List.all_eq_true.mp odd_noword _ hc
            rw [show isWord (.str s) = true from hw] at this
            cases this
          · exact hc
  | remove n =>
    show ∀ s ∈ keysN (removeTo S n).st.en, _
    unfold removeTo
    split
    · intro x hx
      have hx : x ∈ keysN (outT S.en (strD n)) := hx
      rw [keys_outT] at hx
      exact h x (List.mem_filter.mp hx).1
    · exact h
structure Inv59 (tp : Str → Addr) (m0 m : Mem) (d b l : Addr) (S : Rg) : Prop where
  rg : RgAt m0 m d S
  hb : m0 b = some (.dic (mK progD (booksOf S)))
  hl : m0 l = some (.lst (S.ev.map .str))
  tb : ∀ n ∈ (["Registry.back", "Registry.create", "Registry.mark", "Registry.remove"] : List Str), m0 (tp n) = some (lamN n)
  g : Rg59 S
  nm : ∀ s ∈ keysN S.en, D.str s ∈ nam59
  ev : ∀ x ∈ S.ev, x ∈ evs59
theorem Inv59.t {tp : Str → Addr} {m0 m : Mem} {d b l : Addr} {S : Rg} (h : Inv59 tp m0 m d b l S) {n : Str} (hn : n ∈ (["Registry.back", "Registry.create", "Registry.mark", "Registry.remove"] : List Str)) : m0 (tp n) = some (lamN n) := h.tb n hn
end DL
namespace Lk59
open PySem PySem.Spec PyProof.Rows L2 DL
def top (i : Nat) : Stmt := PySem.Challenge.pw_scopenames_k59_create_and_remove.main.body.getD i (.Pass ⟨0, 0, 0, 0⟩)
abbrev s_Registry_get_log : Stmt := (clsB (top 31)).getD 25 (.Pass ⟨0, 0, 0, 0⟩)
abbrev N_Registry_get_log : List Str := ["self"]
theorem sc_Registry_get_log : FnScope N_Registry_get_log ["self"] (defScope s_Registry_get_log) := ⟨rfl, rfl, rfl, by decide +kernel, rfl, by decide +kernel, by decide +kernel⟩
abbrev s_Registry___init__ : Stmt := (clsB (top 31)).getD 0 (.Pass ⟨0, 0, 0, 0⟩)
abbrev N_Registry___init__ : List Str := ["self"]
theorem sc_Registry___init__ : FnScope N_Registry___init__ ["self"] (defScope s_Registry___init__) := ⟨rfl, rfl, rfl, by decide +kernel, rfl, by decide +kernel, by decide +kernel⟩
abbrev s_Registry_get_names : Stmt := (clsB (top 31)).getD 21 (.Pass ⟨0, 0, 0, 0⟩)
abbrev N_Registry_get_names : List Str := ["self"]
theorem sc_Registry_get_names : FnScope N_Registry_get_names ["self"] (defScope s_Registry_get_names) := ⟨rfl, rfl, rfl, by decide +kernel, rfl, by decide +kernel, by decide +kernel⟩
abbrev s_Registry_logged : Stmt := (clsB (top 31)).getD 1 (.Pass ⟨0, 0, 0, 0⟩)
abbrev N_Registry_logged : List Str := ["self", "command", "action", "outcome", "result"]
theorem sc_Registry_logged : FnScope N_Registry_logged ["self", "command", "action"] (defScope s_Registry_logged) := ⟨rfl, rfl, rfl, by decide +kernel, rfl, by decide +kernel, by decide +kernel⟩
abbrev s_Registry_do_back : Stmt := (clsB (top 31)).getD 16 (.Pass ⟨0, 0, 0, 0⟩)
abbrev N_Registry_do_back : List Str := ["self", "label"]
theorem sc_Registry_do_back : FnScope N_Registry_do_back ["self", "label"] (defScope s_Registry_do_back) := ⟨rfl, rfl, rfl, by decide +kernel, rfl, by decide +kernel, by decide +kernel⟩
abbrev s_Registry_back : Stmt := (clsB (top 31)).getD 15 (.Pass ⟨0, 0, 0, 0⟩)
abbrev N_Registry_back : List Str := ["self", "label"]
theorem sc_Registry_back : FnScope N_Registry_back ["self", "label"] (defScope s_Registry_back) := ⟨rfl, rfl, rfl, by decide +kernel, rfl, by decide +kernel, by decide +kernel⟩
abbrev s_is_word : Stmt := top 17
abbrev N_is_word : List Str := ["thing", "sign"]
theorem sc_is_word : FnScope N_is_word ["thing"] (defScope s_is_word) := ⟨rfl, rfl, rfl, by decide +kernel, rfl, by decide +kernel, by decide +kernel⟩
abbrev s_check_new : Stmt := top 29
abbrev N_check_new : List Str := ["name", "existing"]
theorem sc_check_new : FnScope N_check_new ["name", "existing"] (defScope s_check_new) := ⟨rfl, rfl, rfl, by decide +kernel, rfl, by decide +kernel, by decide +kernel⟩
abbrev s_Registry_do_mark : Stmt := (clsB (top 31)).getD 14 (.Pass ⟨0, 0, 0, 0⟩)
abbrev N_Registry_do_mark : List Str := ["self", "label"]
theorem sc_Registry_do_mark : FnScope N_Registry_do_mark ["self", "label"] (defScope s_Registry_do_mark) := ⟨rfl, rfl, rfl, by decide +kernel, rfl, by decide +kernel, by decide +kernel⟩
abbrev s_Registry_mark : Stmt := (clsB (top 31)).getD 13 (.Pass ⟨0, 0, 0, 0⟩)
abbrev N_Registry_mark : List Str := ["self", "label"]
theorem sc_Registry_mark : FnScope N_Registry_mark ["self", "label"] (defScope s_Registry_mark) := ⟨rfl, rfl, rfl, by decide +kernel, rfl, by decide +kernel, by decide +kernel⟩
abbrev s_Entry___init__ : Stmt := (clsB (top 30)).getD 0 (.Pass ⟨0, 0, 0, 0⟩)
abbrev N_Entry___init__ : List Str := ["self", "content", "costs", "amount"]
theorem sc_Entry___init__ : FnScope N_Entry___init__ ["self", "content", "costs", "amount"] (defScope s_Entry___init__) := ⟨rfl, rfl, rfl, by decide +kernel, rfl, by decide +kernel, by decide +kernel⟩
abbrev s_ascending : Stmt := top 26
abbrev N_ascending : List Str := ["table", "key"]
theorem sc_ascending : FnScope N_ascending ["table"] (defScope s_ascending) := ⟨rfl, rfl, rfl, by decide +kernel, rfl, by decide +kernel, by decide +kernel⟩
abbrev s_are_words : Stmt := top 24
abbrev N_are_words : List Str := ["thing", "word"]
theorem sc_are_words : FnScope N_are_words ["thing"] (defScope s_are_words) := ⟨rfl, rfl, rfl, by decide +kernel, rfl, by decide +kernel, by decide +kernel⟩
abbrev s_is_key : Stmt := top 19
abbrev N_is_key : List Str := ["table", "thing"]
theorem sc_is_key : FnScope N_is_key ["table", "thing"] (defScope s_is_key) := ⟨rfl, rfl, rfl, by decide +kernel, rfl, by decide +kernel, by decide +kernel⟩
abbrev s_is_pair : Stmt := top 18
abbrev N_is_pair : List Str := ["thing"]
theorem sc_is_pair : FnScope N_is_pair ["thing"] (defScope s_is_pair) := ⟨rfl, rfl, rfl, by decide +kernel, rfl, by decide +kernel, by decide +kernel⟩
abbrev s_are_bindings : Stmt := top 22
abbrev N_are_bindings : List Str := ["scopes", "thing", "name", "pair", "scope", "word"]
theorem sc_are_bindings : FnScope N_are_bindings ["scopes", "thing"] (defScope s_are_bindings) := ⟨rfl, rfl, rfl, by decide +kernel, rfl, by decide +kernel, by decide +kernel⟩
abbrev s_way_out : Stmt := top 20
abbrev N_way_out : List Str := ["scopes", "scope", "found"]
theorem sc_way_out : FnScope N_way_out ["scopes", "scope"] (defScope s_way_out) := ⟨rfl, rfl, rfl, by decide +kernel, rfl, by decide +kernel, by decide +kernel⟩
abbrev s_are_uses : Stmt := top 23
abbrev N_are_uses : List Str := ["scopes", "bindings", "thing", "name", "pair", "scope", "target"]
theorem sc_are_uses : FnScope N_are_uses ["scopes", "bindings", "thing"] (defScope s_are_uses) := ⟨rfl, rfl, rfl, by decide +kernel, rfl, by decide +kernel, by decide +kernel⟩
abbrev s_is_tree : Stmt := top 21
abbrev N_is_tree : List Str := ["thing", "roots", "scope", "parent"]
theorem sc_is_tree : FnScope N_is_tree ["thing"] (defScope s_is_tree) := ⟨rfl, rfl, rfl, by decide +kernel, rfl, by decide +kernel, by decide +kernel⟩
abbrev s_is_program : Stmt := top 25
abbrev N_is_program : List Str := ["scopes", "bindings", "uses", "outer", "reserved", "name"]
theorem sc_is_program : FnScope N_is_program ["scopes", "bindings", "uses", "outer", "reserved"] (defScope s_is_program) := ⟨rfl, rfl, rfl, by decide +kernel, rfl, by decide +kernel, by decide +kernel⟩
abbrev s_Program___init___x : Stmt := (clsB (top 27)).getD 0 (.Pass ⟨0, 0, 0, 0⟩)
abbrev N_Program___init___x : List Str := ["self", "scopes", "bindings", "uses", "outer", "reserved"]
theorem sc_Program___init___x : FnScope N_Program___init___x ["self", "scopes", "bindings", "uses", "outer", "reserved"] (defScope s_Program___init___x) := ⟨rfl, rfl, rfl, by decide +kernel, rfl, by decide +kernel, by decide +kernel⟩
abbrev s_Registry_do_create : Stmt := (clsB (top 31)).getD 4 (.Pass ⟨0, 0, 0, 0⟩)
abbrev N_Registry_do_create : List Str := ["self", "name", "root", "reserved", "scopes"]
theorem sc_Registry_do_create : FnScope N_Registry_do_create ["self", "name", "root", "reserved"] (defScope s_Registry_do_create) := ⟨rfl, rfl, rfl, by decide +kernel, rfl, by decide +kernel, by decide +kernel⟩
abbrev s_Registry_create : Stmt := (clsB (top 31)).getD 3 (.Pass ⟨0, 0, 0, 0⟩)
abbrev N_Registry_create : List Str := ["self", "name", "root", "reserved"]
theorem sc_Registry_create : FnScope N_Registry_create ["self", "name", "root", "reserved"] (defScope s_Registry_create) := ⟨rfl, rfl, rfl, by decide +kernel, rfl, by decide +kernel, by decide +kernel⟩
abbrev s__law_error : Stmt := top 36
abbrev N__law_error : List Str := ["_law_caught", "_law_kinds", "_law_titles"]
theorem sc__law_error : FnScope N__law_error ["_law_caught"] (defScope s__law_error) := ⟨rfl, rfl, rfl, by decide +kernel, rfl, by decide +kernel, by decide +kernel⟩
abbrev s_Registry_find : Stmt := (clsB (top 31)).getD 2 (.Pass ⟨0, 0, 0, 0⟩)
abbrev N_Registry_find : List Str := ["self", "name"]
theorem sc_Registry_find : FnScope N_Registry_find ["self", "name"] (defScope s_Registry_find) := ⟨rfl, rfl, rfl, by decide +kernel, rfl, by decide +kernel, by decide +kernel⟩
abbrev s_Registry_do_remove : Stmt := (clsB (top 31)).getD 12 (.Pass ⟨0, 0, 0, 0⟩)
abbrev N_Registry_do_remove : List Str := ["self", "name"]
theorem sc_Registry_do_remove : FnScope N_Registry_do_remove ["self", "name"] (defScope s_Registry_do_remove) := ⟨rfl, rfl, rfl, by decide +kernel, rfl, by decide +kernel, by decide +kernel⟩
abbrev s_Registry_remove : Stmt := (clsB (top 31)).getD 11 (.Pass ⟨0, 0, 0, 0⟩)
abbrev N_Registry_remove : List Str := ["self", "name"]
theorem sc_Registry_remove : FnScope N_Registry_remove ["self", "name"] (defScope s_Registry_remove) := ⟨rfl, rfl, rfl, by decide +kernel, rfl, by decide +kernel, by decide +kernel⟩
abbrev s__law_outcome : Stmt := top 42
abbrev N__law_outcome : List Str := ["_law_store", "_law_command_here", "_law_caught", "_law_result", "e"]
theorem sc__law_outcome : FnScope N__law_outcome ["_law_store", "_law_command_here"] (defScope s__law_outcome) := ⟨rfl, rfl, rfl, by decide +kernel, rfl, by decide +kernel, by decide +kernel⟩
abbrev s_Registry_get_log_m : Stmt := (clsB (top 31)).getD 25 (.Pass ⟨0, 0, 0, 0⟩)
abbrev N_Registry_get_log_m : List Str := ["self"]
theorem sc_Registry_get_log_m : FnScope N_Registry_get_log_m ["self"] (defScope s_Registry_get_log_m) := ⟨rfl, rfl, rfl, by decide +kernel, rfl, by decide +kernel, by decide +kernel⟩
abbrev s_Registry_get_names_m : Stmt := (clsB (top 31)).getD 21 (.Pass ⟨0, 0, 0, 0⟩)
abbrev N_Registry_get_names_m : List Str := ["self"]
theorem sc_Registry_get_names_m : FnScope N_Registry_get_names_m ["self"] (defScope s_Registry_get_names_m) := ⟨rfl, rfl, rfl, by decide +kernel, rfl, by decide +kernel, by decide +kernel⟩
abbrev s_Registry_get_spent : Stmt := (clsB (top 31)).getD 24 (.Pass ⟨0, 0, 0, 0⟩)
abbrev N_Registry_get_spent : List Str := ["self", "name"]
theorem sc_Registry_get_spent : FnScope N_Registry_get_spent ["self", "name"] (defScope s_Registry_get_spent) := ⟨rfl, rfl, rfl, by decide +kernel, rfl, by decide +kernel, by decide +kernel⟩
abbrev s_Registry_get_prices : Stmt := (clsB (top 31)).getD 23 (.Pass ⟨0, 0, 0, 0⟩)
abbrev N_Registry_get_prices : List Str := ["self", "name", "found", "binding"]
theorem sc_Registry_get_prices : FnScope N_Registry_get_prices ["self", "name"] (defScope s_Registry_get_prices) := ⟨rfl, rfl, rfl, by decide +kernel, rfl, by decide +kernel, by decide +kernel⟩
abbrev s_Program_parts : Stmt := (clsB (top 27)).getD 8 (.Pass ⟨0, 0, 0, 0⟩)
abbrev N_Program_parts : List Str := ["self"]
theorem sc_Program_parts : FnScope N_Program_parts ["self"] (defScope s_Program_parts) := ⟨rfl, rfl, rfl, by decide +kernel, rfl, by decide +kernel, by decide +kernel⟩
abbrev s_Program___eq__ : Stmt := (clsB (top 27)).getD 9 (.Pass ⟨0, 0, 0, 0⟩)
abbrev N_Program___eq__ : List Str := ["self", "other"]
theorem sc_Program___eq__ : FnScope N_Program___eq__ ["self", "other"] (defScope s_Program___eq__) := ⟨rfl, rfl, rfl, by decide +kernel, rfl, by decide +kernel, by decide +kernel⟩
abbrev s_Registry_get_program : Stmt := (clsB (top 31)).getD 22 (.Pass ⟨0, 0, 0, 0⟩)
abbrev N_Registry_get_program : List Str := ["self", "name"]
theorem sc_Registry_get_program : FnScope N_Registry_get_program ["self", "name"] (defScope s_Registry_get_program) := ⟨rfl, rfl, rfl, by decide +kernel, rfl, by decide +kernel, by decide +kernel⟩
abbrev s__law_same : Stmt := top 43
abbrev N__law_same : List Str := ["_law_store", "_law_state", "_law_nym"]
theorem sc__law_same : FnScope N__law_same ["_law_store", "_law_state"] (defScope s__law_same) := ⟨rfl, rfl, rfl, by decide +kernel, rfl, by decide +kernel, by decide +kernel⟩
abbrev s__law_has : Stmt := top 40
abbrev N__law_has : List Str := ["_law_some", "_law_nym"]
theorem sc__law_has : FnScope N__law_has ["_law_some", "_law_nym"] (defScope s__law_has) := ⟨rfl, rfl, rfl, by decide +kernel, rfl, by decide +kernel, by decide +kernel⟩
abbrev s_Program___init__ : Stmt := (clsB (top 27)).getD 0 (.Pass ⟨0, 0, 0, 0⟩)
abbrev N_Program___init__ : List Str := ["self", "scopes", "bindings", "uses", "outer", "reserved"]
theorem sc_Program___init__ : FnScope N_Program___init__ ["self", "scopes", "bindings", "uses", "outer", "reserved"] (defScope s_Program___init__) := ⟨rfl, rfl, rfl, by decide +kernel, rfl, by decide +kernel, by decide +kernel⟩
abbrev s__law_is_word : Stmt := top 37
abbrev N__law_is_word : List Str := ["_law_thing", "_law_sign"]
theorem sc__law_is_word : FnScope N__law_is_word ["_law_thing"] (defScope s__law_is_word) := ⟨rfl, rfl, rfl, by decide +kernel, rfl, by decide +kernel, by decide +kernel⟩
abbrev s__law_new_name : Stmt := top 39
abbrev N__law_new_name : List Str := ["_law_nym", "_law_existing"]
theorem sc__law_new_name : FnScope N__law_new_name ["_law_nym", "_law_existing"] (defScope s__law_new_name) := ⟨rfl, rfl, rfl, by decide +kernel, rfl, by decide +kernel, by decide +kernel⟩
abbrev s__law_due : Stmt := top 41
abbrev N__law_due : List Str := ["_law_state", "_law_command_here", "_law_nym", "_law_error_here", "_law_words", "_law_word"]
theorem sc__law_due : FnScope N__law_due ["_law_state", "_law_command_here"] (defScope s__law_due) := ⟨rfl, rfl, rfl, by decide +kernel, rfl, by decide +kernel, by decide +kernel⟩
abbrev s__law_next : Stmt := top 34
abbrev N__law_next : List Str := ["_law_pen_here", "_law_nth", "_law_cell", "_law_one", "_law_two", "_law_three"]
theorem sc__law_next : FnScope N__law_next ["_law_pen_here"] (defScope s__law_next) := ⟨rfl, rfl, rfl, by decide +kernel, rfl, by decide +kernel, by decide +kernel⟩
abbrev s__law_draw : Stmt := top 35
abbrev N__law_draw : List Str := ["_law_pen_here", "_law_below", "_law_digit"]
theorem sc__law_draw : FnScope N__law_draw ["_law_pen_here", "_law_below"] (defScope s__law_draw) := ⟨rfl, rfl, rfl, by decide +kernel, rfl, by decide +kernel, by decide +kernel⟩
abbrev s__law_command : Stmt := top 44
abbrev N__law_command : List Str := ["_law_pen_here", "_law_nym", "_law_odd", "_law_root", "_law_words"]
theorem sc__law_command : FnScope N__law_command ["_law_pen_here"] (defScope s__law_command) := ⟨rfl, rfl, rfl, by decide +kernel, rfl, by decide +kernel, by decide +kernel⟩
abbrev s__law_pen : Stmt := top 33
abbrev N__law_pen : List Str := ["_law_script"]
theorem sc__law_pen : FnScope N__law_pen ["_law_script"] (defScope s__law_pen) := ⟨rfl, rfl, rfl, by decide +kernel, rfl, by decide +kernel, by decide +kernel⟩
abbrev s_law : Stmt := top 45
abbrev N_law : List Str := ["_law_script", "_law_pen_here", "_law_store", "_law_state", "_law_turn", "_law_command_here", "_law_seen", "_law_error_here", "_law_many", "_law_nym", "_law_k"]
theorem sc_law : FnScope N_law ["_law_script"] (defScope s_law) := ⟨rfl, rfl, rfl, by decide +kernel, rfl, by decide +kernel, by decide +kernel⟩
structure Tx (K : PySem.W.Frag) (mg : Str → Option Value) (base : Heap) (tp : Str → Addr) : Prop where
  t_Registry_back : TabXm K mg base "Registry" "back" (tp "Registry.back")
  t_Registry_create : TabXm K mg base "Registry" "create" (tp "Registry.create")
  t_Registry_mark : TabXm K mg base "Registry" "mark" (tp "Registry.mark")
  t_Registry_remove : TabXm K mg base "Registry" "remove" (tp "Registry.remove")
  f_Entry_amount : Fld K "Entry" "amount"
  f_Entry_content : Fld K "Entry" "content"
  f_Entry_costs : Fld K "Entry" "costs"
  f_Program_blocked : Fld K "Program" "blocked"
  f_Program_declared : Fld K "Program" "declared"
  f_Program_outside : Fld K "Program" "outside"
  f_Program_parents : Fld K "Program" "parents"
  f_Program_targets : Fld K "Program" "targets"
  f_Registry_entries : Fld K "Registry" "entries"
  f_Registry_events : Fld K "Registry" "events"
  f_Registry_marks : Fld K "Registry" "marks"
  i_Program : IsX K mg "Program"
  x_DuplicateName : ExX K mg "DuplicateName"
  x_InvalidProgram : ExX K mg "InvalidProgram"
  x_InvalidWord : ExX K mg "InvalidWord"
  x_UnknownMark : ExX K mg "UnknownMark"
  x_UnknownName : ExX K mg "UnknownName"
  e_DuplicateName : EisX K mg "DuplicateName" [("DuplicateName", true), ("InvalidProgram", false), ("InvalidWord", false), ("UnknownMark", false), ("UnknownName", false)]
  e_InvalidCommand : EisX K mg "InvalidCommand" [("DuplicateName", false), ("InvalidProgram", false), ("InvalidWord", false), ("UnknownMark", false), ("UnknownName", false)]
  e_InvalidEdit : EisX K mg "InvalidEdit" [("DuplicateName", false), ("InvalidProgram", false), ("InvalidWord", false), ("UnknownMark", false), ("UnknownName", false)]
  e_InvalidKept : EisX K mg "InvalidKept" [("DuplicateName", false), ("InvalidProgram", false), ("InvalidWord", false), ("UnknownMark", false), ("UnknownName", false)]
  e_InvalidPrices : EisX K mg "InvalidPrices" [("DuplicateName", false), ("InvalidProgram", false), ("InvalidWord", false), ("UnknownMark", false), ("UnknownName", false)]
  e_InvalidProgram : EisX K mg "InvalidProgram" [("DuplicateName", false), ("InvalidProgram", true), ("InvalidWord", false), ("UnknownMark", false), ("UnknownName", false)]
  e_InvalidWord : EisX K mg "InvalidWord" [("DuplicateName", false), ("InvalidProgram", false), ("InvalidWord", true), ("UnknownMark", false), ("UnknownName", false)]
  e_NoRenaming : EisX K mg "NoRenaming" [("DuplicateName", false), ("InvalidProgram", false), ("InvalidWord", false), ("UnknownMark", false), ("UnknownName", false)]
  e_UnknownMark : EisX K mg "UnknownMark" [("DuplicateName", false), ("InvalidProgram", false), ("InvalidWord", false), ("UnknownMark", true), ("UnknownName", false)]
  e_UnknownName : EisX K mg "UnknownName" [("DuplicateName", false), ("InvalidProgram", false), ("InvalidWord", false), ("UnknownMark", false), ("UnknownName", true)]
  y_ValueError : EisY K "ValueError" [("DuplicateName", true), ("InvalidProgram", true), ("InvalidWord", true), ("UnknownMark", true), ("UnknownName", true)]
  k_ScopeError : CatX K mg "ScopeError" ["DuplicateName", "InvalidProgram", "InvalidWord", "UnknownMark", "UnknownName"]
  g_InvalidEdit_index : ExfX K "InvalidEdit" "index"
  g_NoRenaming_obstacle : ExfX K "NoRenaming" "obstacle"
  n_Program : NeX K "Program"
  b_ValueError : mg "ValueError" = none
  b_all : mg "all" = none
  b_any : mg "any" = none
  b_dict : mg "dict" = none
  b_isinstance : mg "isinstance" = none
  b_len : mg "len" = none
  b_list : mg "list" = none
  b_range : mg "range" = none
  b_repr : mg "repr" = none
  b_set : mg "set" = none
  b_sorted : mg "sorted" = none
  b_str : mg "str" = none
  b_tuple : mg "tuple" = none
  c_DIGITS : ∃ u, mg "DIGITS" = some (.str "0123456789" u)
  c_LETTERS : ∃ u, mg "LETTERS" = some (.str "abcdefghijklmnopqrstuvwxyz" u)
  c_MAX_WORD : ∃ u, mg "MAX_WORD" = some (.int 8 u)
variable {P : Program} {w : World} {K : PySem.W.Frag} {mg : Str → Option Value} {base : Heap} {tp : Str → Addr}
def sp_Registry_get_log : DSp := fun ds w Q => ∃ x S, ds = [x] ∧ RgIs w x S ∧ Q (.lst (S.ev.map .str)) w
theorem ok_Registry_get_log (T : Tx K mg base tp) (F : FnMe K "Registry" "get_log" "Registry.get_log" s_Registry_get_log ["self"])  : DMet P w K mg base 1 "Registry" "get_log" 1 sp_Registry_get_log := by
  obtain ⟨C, f, fd, kC, hC, hM, F, b⟩ := F.ex
  refine ⟨C, f, fd, _, kC, hC, hM, dfn F sc_Registry_get_log (by intro ds w Q h; first | exact h.elim | (unfold sp_Registry_get_log at h; first | (obtain ⟨rfl, _⟩ := h; rfl) | (obtain ⟨_, rfl, _⟩ := h; rfl) | (obtain ⟨_, _, rfl, _⟩ := h; rfl) | (obtain ⟨_, _, _, rfl, _⟩ := h; rfl) | (obtain ⟨_, _, _, _, rfl, _⟩ := h; rfl) | (obtain ⟨_, _, _, _, _, rfl, _⟩ := h; rfl) | (obtain ⟨_, _, _, _, _, _, rfl, _⟩ := h; rfl) | (obtain ⟨_, _, _, _, _, _, _, rfl, _⟩ := h; rfl) | (obtain ⟨_, _, _, _, _, _, _, _, rfl, _⟩ := h; rfl) | (split at h <;> first | rfl | exact h.elim))) ?_, b, rfl⟩
  intro cdv A outer s H E hr hgd
  have hu := hu_of hr
  have nd := sc_Registry_get_log.nd
  refine ⟨_, (dss_one (ds_ret (de_callTy (cd_list rfl) T.b_list (da_cons (de_fld T.f_Registry_events (dv 0)) da_nil)))), ?_⟩
  intro ds w Q h
  obtain ⟨x, S, rfl, ⟨m0, d, rfl, dx, e, k0, v, hm⟩ | rfl, hq⟩ := h
  · refine ⟨dx, rgF e k0 v, .ref v, hm.hd, rfl, ?_⟩
    exact .inl ⟨_, hm.hv, hq⟩
  · exact ⟨rfl, _, rfl, hq⟩
def sp_Registry___init__ : DSp := fun ds w Q => ∃ p dx, ds = [.ref p] ∧ w.m p = some (.ins "Registry" dx []) ∧ ∀ m1, RgAt (delM w.m p) m1 p ⟨[], [], []⟩ → Q .non { w with m := m1 }
theorem ok_Registry___init__ (T : Tx K mg base tp) (F : FnMk K mg "Registry" "Registry.__init__" s_Registry___init__ ["self"])  : DMak P w K mg base 1 "Registry" 1 sp_Registry___init__ := by
  obtain ⟨C, f, fd, kC, hC, hM, F, b⟩ := F.ex
  refine ⟨C, f, fd, _, kC, hC, hM, dfn F sc_Registry___init__ (by intro ds w Q h; first | exact h.elim | (unfold sp_Registry___init__ at h; first | (obtain ⟨rfl, _⟩ := h; rfl) | (obtain ⟨_, rfl, _⟩ := h; rfl) | (obtain ⟨_, _, rfl, _⟩ := h; rfl) | (obtain ⟨_, _, _, rfl, _⟩ := h; rfl) | (obtain ⟨_, _, _, _, rfl, _⟩ := h; rfl) | (obtain ⟨_, _, _, _, _, rfl, _⟩ := h; rfl) | (obtain ⟨_, _, _, _, _, _, rfl, _⟩ := h; rfl) | (obtain ⟨_, _, _, _, _, _, _, rfl, _⟩ := h; rfl) | (obtain ⟨_, _, _, _, _, _, _, _, rfl, _⟩ := h; rfl) | (split at h <;> first | rfl | exact h.elim))) ?_, b, rfl⟩
  intro cdv A outer s H E hr hgd
  have hu := hu_of hr
  have nd := sc_Registry___init__.nd
  refine ⟨_, (dss_cons (ds_fld T.f_Registry_entries (dv 0) de_dicM)
      (dss_cons (ds_fld T.f_Registry_marks (dv 0) de_dicM)
      (dss_one (ds_fld T.f_Registry_events (dv 0) (de_lstM da_nil))))), ?_⟩
  intro ds w Q h
  obtain ⟨p, dx, rfl, hp, hq⟩ := h
  refine fun e he => ⟨dx, [], ?_, by decide, ?_⟩
  · exact (W.put_ne (fun z => by rw [← z, hp] at he; cases he)).trans hp
  refine fun k he2 => ⟨dx, putFD "entries" (.ref e) [], ?_, Nat.lt_of_le_of_lt (putFD_le (Nat.le_refl 0)) (by decide), ?_⟩
  · exact (W.put_ne (fun z => by rw [← z, W.put_at] at he2; cases he2)).trans W.put_at
  refine ⟨sz_nat 0, fun v he3 => ⟨dx, putFD "marks" (.ref k) (putFD "entries" (.ref e) []), ?_, Nat.lt_of_le_of_lt (putFD_le (putFD_le (Nat.le_refl 0))) (by decide), ?_⟩⟩
  · exact (W.put_ne (fun z => by rw [← z, W.put_at] at he3; cases he3)).trans W.put_at
  have n1 : e ≠ p := fun z => by rw [z, hp] at he; cases he
  have n2 : k ≠ p := fun z => by rw [z, W.put_at] at he2; cases he2
  have n3 : v ≠ p := fun z => by rw [z, W.put_at] at he3; cases he3
  have he2 : w.m k = none ∧ k ≠ e := by
    have h2 : updM (updM w.m e (.dic [])) p _ k = none := he2
    rw [updM_ne n2] at h2
    by_cases z : k = e
    · rw [z, updM_same] at h2; cases h2
    · rw [updM_ne z] at h2; exact ⟨h2, z⟩
  have he3 : w.m v = none ∧ v ≠ e ∧ v ≠ k := by
    have h2 : updM (updM (updM (updM w.m e (.dic [])) p _) k (.dic [])) p _ v = none := he3
    rw [updM_ne n3] at h2
    by_cases z : v = k
    · rw [z, updM_same] at h2; cases h2
    rw [updM_ne z, updM_ne n3] at h2
    by_cases z2 : v = e
    · rw [z2, updM_same] at h2; cases h2
    · rw [updM_ne z2] at h2; exact ⟨h2, z2, z⟩
  refine hq _ ⟨dx, e, k, v, fun a o ha => ?_, updM_same, ?_, ?_, ?_, delM_same, ?_, ?_, ?_, he2.2.symm⟩
  · have hap : a ≠ p := fun z => by rw [z, delM_same] at ha; cases ha
    rw [delM_ne hap] at ha
    have a1 : a ≠ e := fun z => by rw [z, he] at ha; cases ha
    have a2 : a ≠ k := fun z => by rw [z, he2.1] at ha; cases ha
    have a3 : a ≠ v := fun z => by rw [z, he3.1] at ha; cases ha
    show updM (updM (updM (updM (updM (updM w.m e _) p _) k _) p _) v _) p _ a = some o
    rw [updM_ne hap, updM_ne a3, updM_ne hap, updM_ne a2, updM_ne hap, updM_ne a1]
    exact ha
  · show updM (updM (updM (updM (updM (updM w.m e _) p _) k _) p _) v _) p _ e = _
    rw [updM_ne n1, updM_ne he3.2.1.symm, updM_ne n1, updM_ne he2.2.symm, updM_ne n1, updM_same]
    rfl
  · show updM (updM (updM (updM (updM (updM w.m e _) p _) k _) p _) v _) p _ k = _
    rw [updM_ne n2, updM_ne he3.2.2.symm, updM_ne n2, updM_same]
    rfl
  · show updM (updM (updM (updM (updM (updM w.m e _) p _) k _) p _) v _) p _ v = _
    rw [updM_ne n3, updM_same]
    rfl
  · rw [delM_ne n1]; exact he
  · rw [delM_ne n2]; exact he2.1
  · rw [delM_ne n3]; exact he3.1
def sp_Registry_get_names : DSp := fun ds w Q => ∃ x S, ds = [x] ∧ RgIs w x S ∧ Q (.lst ((sortT (keysN S.en)).map .str)) w
theorem ok_Registry_get_names (T : Tx K mg base tp) (F : FnMe K "Registry" "get_names" "Registry.get_names" s_Registry_get_names ["self"])  : DMet P w K mg base 1 "Registry" "get_names" 1 sp_Registry_get_names := by
  obtain ⟨C, f, fd, kC, hC, hM, F, b⟩ := F.ex
  refine ⟨C, f, fd, _, kC, hC, hM, dfn F sc_Registry_get_names (by intro ds w Q h; first | exact h.elim | (unfold sp_Registry_get_names at h; first | (obtain ⟨rfl, _⟩ := h; rfl) | (obtain ⟨_, rfl, _⟩ := h; rfl) | (obtain ⟨_, _, rfl, _⟩ := h; rfl) | (obtain ⟨_, _, _, rfl, _⟩ := h; rfl) | (obtain ⟨_, _, _, _, rfl, _⟩ := h; rfl) | (obtain ⟨_, _, _, _, _, rfl, _⟩ := h; rfl) | (obtain ⟨_, _, _, _, _, _, rfl, _⟩ := h; rfl) | (obtain ⟨_, _, _, _, _, _, _, rfl, _⟩ := h; rfl) | (obtain ⟨_, _, _, _, _, _, _, _, rfl, _⟩ := h; rfl) | (split at h <;> first | rfl | exact h.elim))) ?_, b, rfl⟩
  intro cdv A outer s H E hr hgd
  have hu := hu_of hr
  have nd := sc_Registry_get_names.nd
  refine ⟨_, (dss_one (ds_ret (de_callB (cd_sorted rfl hr.units) T.b_sorted (da_cons (de_fld T.f_Registry_entries (dv 0)) da_nil)))), ?_⟩
  intro ds w Q h
  obtain ⟨x, S, rfl, ⟨m0, d, rfl, dx, e, k0, v, hm⟩ | rfl, hq⟩ := h
  · refine ⟨dx, rgF e k0 v, .ref e, hm.hd, rfl, ?_⟩
    exact .inr ⟨_, keysN S.en, hm.he, mK_keys entD S.en, hq⟩
  · exact ⟨rfl, bkD S.en, rfl, keysN S.en, mK_keys entD S.en, hq⟩
def sp_Registry_logged : ClS := fun fa mo T ds w Q => ∃ m0 d S cmd, ds = [.ref d, .str cmd, .ref fa] ∧ RgAt m0 w.m d S ∧ m0 fa = some mo ∧ S.ev.length ≤ 10000 ∧
  ∀ (w1 : W) (Q1 : DK), RgAt m0 w1.m d (S.log cmd) → w1.n = w.n → (∀ env C fs m1 n S2, RgAt m0 m1 d S2 → S2.ev.length ≤ 20000 → (∀ env m3, RgAt m0 m3 d (S2.log "failed") → w.e env C fs m3 n) → w1.e env C fs m1 n) →
    (∀ r w2 S2, RgAt m0 w2.m d S2 → S2.ev.length ≤ 20000 → (∀ m3, RgAt m0 m3 d (S2.log "done") → Q r ⟨m3, w2.n, w.e⟩) → Q1 r w2) → T w1 Q1
theorem cmd_logged {m0 : Mem} {d fa : Addr} {S : Rg} {mo : MO} {T : W → DK → Prop} {R : CmdTo} {w : W} {Q : DK} {env : En} (x : Str) (hR : RgAt m0 w.m d S) (hl : S.ev.length ≤ 10000) (hn : w.m fa = none) (hl2 : R.st.ev.length ≤ 20000)
    (hT : ∀ (w1 : W) (Q1 : DK), RgAt (updM m0 fa mo) w1.m d (S.log x) → RgK w1 (updM m0 fa mo) d Q1 R → T w1 Q1) (hQ : RgK w m0 d Q R.end_) : sp_Registry_logged fa mo T [.ref d, .str x, .ref fa] ((w.put fa mo).inn env) fun r w3 => Q r ((w3.del fa).as w) := by
  have h0 := hR.free hn
  refine ⟨updM m0 fa mo, d, S, x, rfl, hR.beside hn, updM_same, hl, fun w1 Q1 h1 n1 hx hq => hT w1 Q1 h1 ?_⟩
  cases R with
  | err C fs S2 =>
    intro env2 m1 h2
    refine hx env2 C fs m1 w1.n S2 h2 hl2 fun env3 m3 h3 => ?_
    have q := hQ env m3 (h3.weak h0)
    rw [n1]
    exact q
  | ok r S2 =>
    intro m1 h2
    refine hq r _ S2 h2 hl2 fun m3 h3 => ?_
    have q := hQ _ (h3.without h0)
    have e : ({ w with m := delM m3 fa } : W) = ((⟨m3, w1.n, ((w.put fa mo).inn env).e⟩ : W).del fa).as w := by
      show (⟨_, w.n, w.e⟩ : W) = ⟨_, w1.n, w.e⟩
      rw [n1]
      rfl
    rw [e] at q
    exact q
theorem ok_Registry_logged (T : Tx K mg base tp) (F : FnMe K "Registry" "logged" "Registry.logged" s_Registry_logged ["self", "command", "action"])  : ∀ k, DLam P w K mg base k "Registry" "logged" 3 sp_Registry_logged := by
  intro k
  obtain ⟨C, f, fd, kC, hC, hM, F, b⟩ := F.ex
  refine ⟨C, f, fd, _, kC, hC, hM, fnL_of F sc_Registry_logged (by rintro fa mo TT ds w Q ⟨_, _, _, _, rfl, _⟩; rfl) ?_, b, rfl⟩
  intro cdv A outer s H E fa mo TT hr hgd act
  have hu := hu_of hr
  have nd := sc_Registry_logged.nd
  refine ⟨_, (dss_cons (ds_expr (de_bm PySem.F.slot_list_append PySem.F.type_list_append md_append (de_fld T.f_Registry_events (dv 0)) (da_cons (dv 1) da_nil)))
      (dss_cons (ds_set (i := 3) nd de_str)
      (dss_cons (ds_fin (takes_of rfl rfl rfl rfl) rfl rfl rfl (fun _ _ _ tk => (dss_cons (ds_set (i := 4) nd (de_act (i := 2) act hr hgd tk))
      (dss_one (ds_set (i := 3) nd de_str)))) (dss_one (ds_expr (de_bm PySem.F.slot_list_append PySem.F.type_list_append md_append (de_fld T.f_Registry_events (dv 0)) (da_cons (dv 3) da_nil)))) (fun _ _ => (dss_one (ds_expr (de_bm PySem.F.slot_list_append PySem.F.type_list_append md_append (de_fld T.f_Registry_events (dv 0)) (da_cons (dv 3) da_nil))))))
      (dss_one (ds_ret (dv 4)))))), ?_⟩
  intro ds w Q h
  obtain ⟨m0, d, S, cmd, rfl, ⟨dx, e, k0, v, hm⟩, hfa, hl, hT⟩ := h
  have ez : (S.ev.map D.str).length ≤ 10000 := by rw [List.length_map]; exact hl
  refine ⟨dx, rgF e k0 v, .ref v, hm.hd, rfl, ?_⟩
  refine ⟨⟨_, hm.hv⟩, S.ev.map .str, hm.hv, lt_sz (by omega), ?_⟩
  have h1 := hm.putV (S.ev ++ [cmd])
  rw [List.map_append] at h1
  have h1 : RgM m0 (w.put v (.lst (S.ev.map D.str ++ [D.str cmd]))).m d dx e k0 v (S.log cmd) := h1
  obtain ⟨w0, e0, n0, x0⟩ : ∃ w0, w0 = w.put v (.lst (S.ev.map D.str ++ [D.str cmd])) ∧ w0.n = w.n ∧ w0.e = w.e := ⟨_, rfl, rfl, rfl⟩
  rw [← e0] at h1 ⊢
  clear e0
  have app : ∀ (S2 : Rg) (x : Str) (w2 : W), RgAt m0 w2.m d S2 → S2.ev.length ≤ 20000 → ∀ {Q2 : W → Prop} {env : En}, env[0]? = some (some (.ref d)) → env[3]? = some (some (.str x)) → (∀ m3, RgAt m0 m3 d (S2.log x) → Q2 ⟨m3, w2.n, w2.e⟩) →
      dDrop (dBM appendR (dFld "Registry" "events" (dVar 0)) (dCons (dVar 3) dNil)) { nx := fun _ w3 => Q2 w3, rt := fun _ _ => False } env w2 := by
    rintro S2 x w2 ⟨dx2, e2, k2, v2, h2⟩ hl2 Q2 env i0 i3 hQ
    show match env[0]? with | some (some y) => _ | _ => False
    rw [i0]
    refine ⟨dx2, rgF e2 k2 v2, .ref v2, h2.hd, rfl, ⟨_, h2.hv⟩, ?_⟩
    show match env[3]? with | some (some y) => _ | _ => False
    rw [i3]
    refine ⟨S2.ev.map .str, h2.hv, lt_sz (by rw [List.length_map]; omega), ?_⟩
    have h3 := h2.putV (S2.ev ++ [x])
    rw [List.map_append] at h3
    exact hQ _ ⟨dx2, e2, k2, v2, h3⟩
  refine ⟨rfl, h1.keep _ _ hfa, ?_⟩
  refine hT _ _ ⟨dx, e, k0, v, h1⟩ n0 (fun env C fs m1 n S2 hS2 hl2 hw => ?_) fun r w2 S2 hS2 hl2 hq => ?_
  · exact app S2 "failed" ⟨m1, n, _⟩ hS2 hl2 (Q2 := fun w3 => w0.e _ C fs w3.m w3.n) (env := [some (.ref d), some (.str cmd), some (.ref fa), some (.str "failed"), none]) rfl rfl fun m3 h3 => by
      show w0.e _ C fs m3 n
      rw [x0]
      exact hw _ m3 h3
  · refine app S2 "done" ⟨w2.m, w2.n, fun _ _ _ _ _ => False⟩ hS2 hl2 (Q2 := fun w3 => Q r (w3.as w0)) (env := [some (.ref d), some (.str cmd), some (.ref fa), some (.str "done"), some r]) rfl rfl fun m3 h3 => ?_
    have q := hq m3 h3
    rw [← x0] at q
    exact q
def sp_Registry_do_back : DSp := fun ds w Q => ∃ m0 d S n, ds = [.ref d, n] ∧ RgAt m0 w.m d S ∧ (tyN n).isSome = true ∧ (∀ e ∈ S.ms, (keysN e.2).Nodup ∧ e.2.length ≤ 10000) ∧ RgK w m0 d Q (rbackTo S n)
theorem ok_Registry_do_back (T : Tx K mg base tp) (F : FnMe K "Registry" "do_back" "Registry.do_back" s_Registry_do_back ["self", "label"])  : DMet P w K mg base 1 "Registry" "do_back" 2 sp_Registry_do_back := by
  obtain ⟨C, f, fd, kC, hC, hM, F, b⟩ := F.ex
  refine ⟨C, f, fd, _, kC, hC, hM, dfn F sc_Registry_do_back (by intro ds w Q h; first | exact h.elim | (unfold sp_Registry_do_back at h; first | (obtain ⟨rfl, _⟩ := h; rfl) | (obtain ⟨_, rfl, _⟩ := h; rfl) | (obtain ⟨_, _, rfl, _⟩ := h; rfl) | (obtain ⟨_, _, _, rfl, _⟩ := h; rfl) | (obtain ⟨_, _, _, _, rfl, _⟩ := h; rfl) | (obtain ⟨_, _, _, _, _, rfl, _⟩ := h; rfl) | (obtain ⟨_, _, _, _, _, _, rfl, _⟩ := h; rfl) | (obtain ⟨_, _, _, _, _, _, _, rfl, _⟩ := h; rfl) | (obtain ⟨_, _, _, _, _, _, _, _, rfl, _⟩ := h; rfl) | (split at h <;> first | rfl | exact h.elim))) ?_, b, rfl⟩
  intro cdv A outer s H E hr hgd
  have hu := hu_of hr
  have nd := sc_Registry_do_back.nd
  refine ⟨_, (dss_cons (ds_if (dt_w (dw_or (dt_not (dt_val (de_callB cd_isi T.b_isinstance (da_cons (dv 1) (da_cons (de_ty (n := "str") T.b_str) da_nil))))) (dw_or1 (dt_cmp (od_notin hu) (dv 1) (de_fld T.f_Registry_marks (dv 0)))))) (dss_one (ds_raise T.x_UnknownMark rfl (takes_of rfl rfl rfl rfl))) dss_nil)
      (dss_one (ds_fld T.f_Registry_entries (dv 0) (de_callTy (cd_dictM rfl) T.b_dict (da_cons (de_sub hu (de_fld T.f_Registry_marks (dv 0)) (dv 1)) da_nil))))), ?_⟩
  intro ds w Q h
  obtain ⟨m0, d, S, n, rfl, hR, hn, nd, hq⟩ := h
  have hR' := hR
  obtain ⟨dx, e, k0, v, hm⟩ := hR'
  unfold rbackTo at hq
  have lkv : ∀ s, valD (mK bkD S.ms) (.inr s) = (lk S.ms s).map bkD := fun s => valD_mK bkD S.ms s
  have err : hasN n (keysN S.ms) = false → ∀ env, w.e env "UnknownMark" none w.m w.n := fun hf env => by
    rw [hf, if_neg (by decide)] at hq
    exact hq _ _ hR
  cases n with
  | str s =>
    have err : decide (s ∈ keysN S.ms) = false → ∀ env, w.e env "UnknownMark" none w.m w.n := err
    refine ⟨_, _, rfl, rfl, ?_⟩
    refine ⟨dx, rgF e k0 v, .ref k0, hm.hd, rfl, .inr ⟨_, .inr s, hm.hk, rfl, ?_⟩⟩
    rw [lkv]
    cases hl : lk S.ms s with
    | none => exact err (decide_eq_false fun z => by obtain ⟨a, ha⟩ := lk_some z; rw [hl] at ha; cases ha) _
    | some a =>
      have hk : hasN (.str s) (keysN S.ms) = true := decide_eq_true (lk_key hl)
      rw [hk, if_pos rfl] at hq
      refine ⟨dx, rgF e k0 v, .ref k0, hm.hd, rfl, .inr ⟨_, .inr s, bkD a, hm.hk, rfl, by rw [lkv, hl]; rfl, ?_⟩⟩
      refine ⟨mK entD a, rfl, fun p hp => ?_⟩
      refine ⟨dx, rgF e k0 v, ?_, (show 3 < 1000 by decide), ?_⟩
      · exact (W.put_ne (fun z => by rw [← z, hm.hd] at hp; cases hp)).trans hm.hd
      have h2 := hm.newE hp a
      have e2 : ({ S with en := (lk S.ms (strD (.str s))).getD [] } : Rg) = { S with en := a } := by
        show ({ S with en := (lk S.ms s).getD [] } : Rg) = _
        rw [hl]
        rfl
      rw [e2] at hq
      exact hq _ ⟨dx, p, k0, v, h2⟩
  | non => exact ⟨_, _, rfl, rfl, err rfl _⟩
  | bl _ => exact ⟨_, _, rfl, rfl, err rfl _⟩
  | int _ => exact ⟨_, _, rfl, rfl, err rfl _⟩
  | lst _ => exact ⟨_, _, rfl, rfl, err rfl _⟩
  | tup _ => exact ⟨_, _, rfl, rfl, err rfl _⟩
  | dic _ => exact ⟨_, _, rfl, rfl, err rfl _⟩
  | _ => cases hn
def sp_Registry_back (tp : Str → Addr) : DSp := fun ds w Q => ∃ m0 d S n, ds = [.ref d, n] ∧ RgAt m0 w.m d S ∧ S.ev.length ≤ 10000 ∧ m0 (tp "Registry.back") = some (lamN "Registry.back") ∧ (tyN n).isSome = true ∧ (∀ e ∈ S.ms, (keysN e.2).Nodup ∧ e.2.length ≤ 10000) ∧ RgK w m0 d Q (rbackTo (S.log "back") n).end_
theorem ok_Registry_back (T : Tx K mg base tp) (F : FnMe K "Registry" "back" "Registry.back" s_Registry_back ["self", "label"]) (C_Registry_logged : ∀ k, DLam P w K mg base k "Registry" "logged" 3 sp_Registry_logged) (C_Registry_do_back : DMet P w K mg base 1 "Registry" "do_back" 2 sp_Registry_do_back) : DMet P w K mg base 5 "Registry" "back" 2 (sp_Registry_back tp) := by
  obtain ⟨C, f, fd, kC, hC, hM, F, b⟩ := F.ex
  obtain ⟨c0, hc0, TB⟩ := T.t_Registry_back.ex _ _ kC hM.at_
  refine ⟨C, f, fd, _, kC, hC, hM, dfnC F sc_Registry_back (by intro ds w Q h; first | exact h.elim | (unfold sp_Registry_back at h; first | (obtain ⟨rfl, _⟩ := h; rfl) | (obtain ⟨_, rfl, _⟩ := h; rfl) | (obtain ⟨_, _, rfl, _⟩ := h; rfl) | (obtain ⟨_, _, _, rfl, _⟩ := h; rfl) | (obtain ⟨_, _, _, _, rfl, _⟩ := h; rfl) | (obtain ⟨_, _, _, _, _, rfl, _⟩ := h; rfl) | (obtain ⟨_, _, _, _, _, _, rfl, _⟩ := h; rfl) | (obtain ⟨_, _, _, _, _, _, _, rfl, _⟩ := h; rfl) | (obtain ⟨_, _, _, _, _, _, _, _, rfl, _⟩ := h; rfl) | (split at h <;> first | rfl | exact h.elim))) ?_, b, rfl⟩
  intro cdv hcdl A outer s H E hr hgd
  obtain rfl := hcdl c0 hc0
  have hu := hu_of hr
  have nd := sc_Registry_back.nd
  refine ⟨_, (dss_one (ds_expr (de_methL (P := tp "Registry.back") (q := "Registry.back.<locals>.<lambda>") (C_Registry_logged _) TB rfl rfl hr hgd (takes_of rfl rfl rfl rfl) (dv 0) de_str rfl (fun A outer s H E f c1 hr hgd tk => have hu := hu_of hr; (de_meth (DMet.mono C_Registry_do_back (by decide)) hr hgd tk (dv 0) (da_cons (dv 1) da_nil)))))), ?_⟩
  intro ds w Q h
  obtain ⟨m0, d, S, n, rfl, hR, hl, hT, hn, nd, hq⟩ := h
  have hR' := hR
  obtain ⟨dx, e, k0, v, hm⟩ := hR'
  refine ⟨dx, rgF e k0 v, hm.hd, rfl, hm.keep _ _ hT, ?_⟩
  rintro fa mo hn2 ⟨o, c1, σ, rfl⟩
  refine cmd_logged "back" hR hl hn2 (R := rbackTo (S.log "back") n) (by rw [rbackTo_st]; exact log_len hl) (fun w1 Q1 h1 h2 => ?_) (hq.non (rbackTo_non _ _))
  obtain ⟨dx1, e1, k1, v1, hm1⟩ := h1
  exact ⟨dx1, rgF e1 k1 v1, hm1.hd, rfl, _, d, _, n, rfl, ⟨dx1, e1, k1, v1, hm1⟩, hn, nd, h2.inn _⟩
def sp_is_word : DSp := fun ds w Q => match ds with
  | [d] => plainD d = true ∧ Q (.bl (isWord d)) w
  | _ => False
theorem ok_is_word (T : Tx K mg base tp) (F : FnAt K mg "is_word" s_is_word ["thing"])  : DCal P w K mg base 1 "is_word" 1 sp_is_word := by
  obtain ⟨f, fd, F, hm, b⟩ := F.ex
  obtain ⟨u_DIGITS, c_DIGITS⟩ := T.c_DIGITS
  obtain ⟨u_LETTERS, c_LETTERS⟩ := T.c_LETTERS
  obtain ⟨u_MAX_WORD, c_MAX_WORD⟩ := T.c_MAX_WORD
  refine ⟨f, fd, _, dfn F sc_is_word (by intro ds w Q h; first | exact h.elim | (unfold sp_is_word at h; first | (obtain ⟨rfl, _⟩ := h; rfl) | (obtain ⟨_, rfl, _⟩ := h; rfl) | (obtain ⟨_, _, rfl, _⟩ := h; rfl) | (obtain ⟨_, _, _, rfl, _⟩ := h; rfl) | (obtain ⟨_, _, _, _, rfl, _⟩ := h; rfl) | (obtain ⟨_, _, _, _, _, rfl, _⟩ := h; rfl) | (obtain ⟨_, _, _, _, _, _, rfl, _⟩ := h; rfl) | (obtain ⟨_, _, _, _, _, _, _, rfl, _⟩ := h; rfl) | (obtain ⟨_, _, _, _, _, _, _, _, rfl, _⟩ := h; rfl) | (split at h <;> first | rfl | exact h.elim))) ?_, hm, F.kp, b, rfl⟩
  intro cdv A outer s H E hr hgd
  have hu := hu_of hr
  have nd := sc_is_word.nd
  refine ⟨_, (dss_cons (ds_if (dt_w (dw_or (dt_not (dt_val (de_callB cd_isi T.b_isinstance (da_cons (dv 0) (da_cons (de_ty (n := "str") T.b_str) da_nil))))) (dw_or (dt_not (dt_chain od_le od_le de_int (de_callB cd_len T.b_len (da_cons (dv 0) da_nil)) (de_gint c_MAX_WORD))) (dw_or1 (dt_cmp (od_notin hu) (de_sub hu (dv 0) de_int) (de_gstr c_LETTERS)))))) (dss_one (ds_ret de_bl)) dss_nil)
      (dss_one (ds_ret (de_callB (cd_all rfl) T.b_all (da_cons (de_lcG (own := [("sign", 1)]) finL_ok rfl nd (di_str (dv 0)) (by kernel_rfl) (fun _ _ _ _ _ => (dg_name 1 nd)) (fun _ _ _ _ _ => dts_nil) (fun _ _ _ _ _ => (de_cmp (od_in hu) (dv 1) (de_op od_add (de_gstr c_LETTERS) (de_gstr c_DIGITS))))) da_nil))))), ?_⟩
  intro ds w Q h
  match ds, h with
  | [d], h =>
    obtain ⟨h1, h2⟩ := h
    cases d with
    | str x =>
      have h1 : x.length ≤ sizeLine := of_decide_eq_true h1
      refine ⟨_, true, rfl, by decide +kernel, ?_⟩
      refine ⟨h1, ?_⟩
      have fin : wordS x = false → Q (.bl false) w := fun e => by
        have h2 : Q (.bl (wordS x)) w := h2
        rw [e] at h2; exact h2
      refine ifd (fun c1 => ?_) (fun c1 => ?_)
      · refine nif (fun c2 => ?_) (fun c2 => ?_)
        · obtain ⟨c0, r, e⟩ : ∃ c r, x.cps.toList = c :: r := by
            cases e : x.cps.toList with
            | nil =>
              have : x.cps.toList.length = x.length := by simp [Str.length]
              rw [e] at this
              simp at this
              omega
            | cons c r => exact ⟨c, r, rfl⟩
          refine ⟨h1, c0, by rw [e]; exact atI0 _ _, ?_⟩
          refine ifx (fun c3 => ?_) (fun c3 => ?_)
          · refine lc_map (fun d => .bl (match d with | .str y => inS y alnum | _ => false)) (by unfold DL.signs; rw [List.length_map]; exact h1) (fun y hy R hR => ?_) (all_bl _ ?_)
            · obtain ⟨c, hc, rfl⟩ := List.mem_map.mp hy
              refine ⟨by decide, ?_⟩
              have hR : R (.bl (inS ⟨#[c]⟩ alnum)) w.mute := hR
              rw [← ealn] at hR
              unfold DL.inR
              show R (.bl (false ^^ inS ⟨#[c]⟩ (letters ++ digits))) w.mute
              rw [Bool.false_xor]
              exact hR
            · have h2 : Q (.bl (wordS x)) w := h2
              rw [inS_one] at c3
              have c3 : decide (c0 ∈ letters.cps.toList) = true := c3
              have e2 : wordS x = ((DL.signs x).map fun d => (match d with | .str y => inS y alnum | _ => false)).all id := by
                unfold wordS DL.signs
                rw [decide_eq_true (show 1 ≤ x.length by omega), decide_eq_true (show x.length ≤ 8 by omega), e]
                simp only [List.head?]
                rw [c3]
                simp only [Bool.true_and, List.map_map, List.all_map]
                congr 1
                funext c
                simp only [Function.comp, id]
                rw [inS_one]
              rw [e2] at h2
              exact h2
          · exact fin (by
              rw [inS_one] at c3
              have c3 : decide (c0 ∈ letters.cps.toList) = false := c3
              unfold wordS; rw [e]; simp only [List.head?]; rw [c3]; simp)
        · exact fin (by unfold wordS; rw [decide_eq_false (show ¬ x.length ≤ 8 by omega)]; simp)
      · exact fin (by unfold wordS; rw [decide_eq_false (by omega)]; rfl)
    | non => exact ⟨_, false, rfl, by decide +kernel, h2⟩
    | bl b => exact ⟨_, false, rfl, by decide +kernel, h2⟩
    | int i => exact ⟨_, false, rfl, by decide +kernel, h2⟩
    | lst xs => exact ⟨_, false, rfl, by decide +kernel, h2⟩
    | tup xs => exact ⟨_, false, rfl, by decide +kernel, h2⟩
    | dic xs => exact ⟨_, false, rfl, by decide +kernel, h2⟩
    | _ => cases h1
def sp_check_new : DSp := fun ds w Q => ∃ n e ks, ds = [n, .ref e] ∧ plainD n = true ∧ (∃ kvs, w.m e = some (.dic kvs) ∧ kvs.map (·.1) = ks.map Sum.inr) ∧ (match nameTo n ks with
  | some C => w.rzA C none
  | none => Q .non w)
theorem ok_check_new (T : Tx K mg base tp) (F : FnAt K mg "check_new" s_check_new ["name", "existing"]) (C_is_word : DCal P w K mg base 1 "is_word" 1 sp_is_word) : DCal P w K mg base 2 "check_new" 2 sp_check_new := by
  obtain ⟨f, fd, F, hm, b⟩ := F.ex
  refine ⟨f, fd, _, dfn F sc_check_new (by intro ds w Q h; first | exact h.elim | (unfold sp_check_new at h; first | (obtain ⟨rfl, _⟩ := h; rfl) | (obtain ⟨_, rfl, _⟩ := h; rfl) | (obtain ⟨_, _, rfl, _⟩ := h; rfl) | (obtain ⟨_, _, _, rfl, _⟩ := h; rfl) | (obtain ⟨_, _, _, _, rfl, _⟩ := h; rfl) | (obtain ⟨_, _, _, _, _, rfl, _⟩ := h; rfl) | (obtain ⟨_, _, _, _, _, _, rfl, _⟩ := h; rfl) | (obtain ⟨_, _, _, _, _, _, _, rfl, _⟩ := h; rfl) | (obtain ⟨_, _, _, _, _, _, _, _, rfl, _⟩ := h; rfl) | (split at h <;> first | rfl | exact h.elim))) ?_, hm, F.kp, b, rfl⟩
  intro cdv A outer s H E hr hgd
  have hu := hu_of hr
  have nd := sc_check_new.nd
  refine ⟨_, (dss_cons (ds_if (dt_not (dt_val (de_call (DCal.mono C_is_word (by decide)) hr hgd (takes_of rfl rfl rfl rfl) (da_cons (dv 0) da_nil)))) (dss_one (ds_raise T.x_InvalidWord rfl (takes_of rfl rfl rfl rfl))) dss_nil)
      (dss_one (ds_if (dt_cmp (od_in hu) (dv 0) (dv 1)) (dss_one (ds_raise T.x_DuplicateName rfl (takes_of rfl rfl rfl rfl))) dss_nil))), ?_⟩
  intro ds w Q h
  obtain ⟨n, e, ks, rfl, hp, ⟨kvs, he, hk⟩, hq⟩ := h
  refine ⟨hp, ?_⟩
  have hv : ∀ s : Str, (valD kvs (.inr s)).isSome = decide (s ∈ ks) := fun s => by
    rw [Bool.eq_iff_iff, decide_eq_true_eq]
    have : (valD kvs (.inr s)).isSome = true ↔ (Sum.inr s : Key) ∈ kvs.map (·.1) := by
      unfold valD
      rw [Option.isSome_map, List.find?_isSome]
      simp only [List.mem_map, decide_eq_true_eq]
    rw [this, hk]
    simp
  refine ifn (fun c => ?_) (fun c => ?_)
  · cases n with
    | str s =>
      have hw : wordS s = true := c
      have hq : match (if wordS s = true then (if s ∈ ks then some ("DuplicateName" : Str) else none) else some "InvalidWord") with
        | some C => w.rzA C none
        | none => Q .non w := hq
      rw [if_pos hw] at hq
      refine .inr ⟨kvs, .inr s, he, rfl, ?_⟩
      rw [hv]
      refine ify (b := decide (s ∈ ks)) (fun c2 => ?_) (fun c2 => ?_)
      · rw [if_pos (of_decide_eq_true c2)] at hq
        exact hq _
      · rw [if_neg (of_decide_eq_false c2)] at hq
        exact hq
    | _ => cases c
  · have e2 : nameTo n ks = some "InvalidWord" := by
      cases n with
      | str s => show (if wordS s = true then _ else _) = some ("InvalidWord" : Str); rw [if_neg (by rw [show wordS s = false from c]; decide)]
      | _ => rfl
    rw [e2] at hq
    exact hq _
def sp_Registry_do_mark : DSp := fun ds w Q => ∃ m0 d S n, ds = [.ref d, n] ∧ RgAt m0 w.m d S ∧ plainD n = true ∧ S.en.length ≤ 10000 ∧ S.ms.length ≤ 10000 ∧ RgK w m0 d Q (markTo S n)
theorem ok_Registry_do_mark (T : Tx K mg base tp) (F : FnMe K "Registry" "do_mark" "Registry.do_mark" s_Registry_do_mark ["self", "label"]) (C_check_new : DCal P w K mg base 2 "check_new" 2 sp_check_new) : DMet P w K mg base 3 "Registry" "do_mark" 2 sp_Registry_do_mark := by
  obtain ⟨C, f, fd, kC, hC, hM, F, b⟩ := F.ex
  refine ⟨C, f, fd, _, kC, hC, hM, dfn F sc_Registry_do_mark (by intro ds w Q h; first | exact h.elim | (unfold sp_Registry_do_mark at h; first | (obtain ⟨rfl, _⟩ := h; rfl) | (obtain ⟨_, rfl, _⟩ := h; rfl) | (obtain ⟨_, _, rfl, _⟩ := h; rfl) | (obtain ⟨_, _, _, rfl, _⟩ := h; rfl) | (obtain ⟨_, _, _, _, rfl, _⟩ := h; rfl) | (obtain ⟨_, _, _, _, _, rfl, _⟩ := h; rfl) | (obtain ⟨_, _, _, _, _, _, rfl, _⟩ := h; rfl) | (obtain ⟨_, _, _, _, _, _, _, rfl, _⟩ := h; rfl) | (obtain ⟨_, _, _, _, _, _, _, _, rfl, _⟩ := h; rfl) | (split at h <;> first | rfl | exact h.elim))) ?_, b, rfl⟩
  intro cdv A outer s H E hr hgd
  have hu := hu_of hr
  have nd := sc_Registry_do_mark.nd
  refine ⟨_, (dss_cons (ds_expr (de_call (DCal.mono C_check_new (by decide)) hr hgd (takes_of rfl rfl rfl rfl) (da_cons (dv 1) (da_cons (de_fld T.f_Registry_marks (dv 0)) da_nil))))
      (dss_one (ds_asg (de_callTy (cd_dict rfl) T.b_dict (da_cons (de_fld T.f_Registry_entries (dv 0)) da_nil)) (dg_sub hu (de_fld T.f_Registry_marks (dv 0)) (dv 1))))), ?_⟩
  intro ds w Q h
  obtain ⟨m0, d, S, n, rfl, hR, hn, hl1, hl2, hq⟩ := h
  have hR' := hR
  obtain ⟨dx, e, k0, v, hm⟩ := hR'
  unfold markTo at hq
  refine ⟨dx, rgF e k0 v, .ref k0, hm.hd, rfl, ?_⟩
  refine ⟨n, k0, keysN S.ms, rfl, hn, ⟨_, hm.hk, mK_keys bkD S.ms⟩, ?_⟩
  cases hn2 : nameTo n (keysN S.ms) with
  | some C =>
    rw [hn2] at hq
    exact fun env => hq _ _ hR
  | none =>
    rw [hn2] at hq
    obtain ⟨s, rfl, hs⟩ := nameTo_none hn2
    refine ⟨dx, rgF e k0 v, .ref e, hm.hd, rfl, ?_⟩
    refine ⟨_, hm.he, ?_⟩
    refine ⟨dx, rgF e k0 v, .ref k0, hm.hd, rfl, ?_⟩
    refine Or.inr ⟨_, .inr s, hm.hk, rfl, ?_, ?_⟩
    · rw [len_mK]
      exact lt_sz (by omega)
    · have h2 := hm.putK (S.ms ++ [(s, S.en)])
      have e1 := putD_mK bkD S.ms s S.en
      rw [putN_new hs] at e1
      show Q .non { w with m := updM w.m k0 (.dic (putD (mK bkD S.ms) (.inr s) (bkD S.en))) }
      rw [e1]
      exact hq _ ⟨dx, e, k0, v, h2⟩
def sp_Registry_mark (tp : Str → Addr) : DSp := fun ds w Q => ∃ m0 d S n, ds = [.ref d, n] ∧ RgAt m0 w.m d S ∧ S.ev.length ≤ 10000 ∧ m0 (tp "Registry.mark") = some (lamN "Registry.mark") ∧ plainD n = true ∧ S.en.length ≤ 10000 ∧ S.ms.length ≤ 10000 ∧ RgK w m0 d Q (markTo (S.log "mark") n).end_
theorem ok_Registry_mark (T : Tx K mg base tp) (F : FnMe K "Registry" "mark" "Registry.mark" s_Registry_mark ["self", "label"]) (C_Registry_logged : ∀ k, DLam P w K mg base k "Registry" "logged" 3 sp_Registry_logged) (C_Registry_do_mark : DMet P w K mg base 3 "Registry" "do_mark" 2 sp_Registry_do_mark) : DMet P w K mg base 7 "Registry" "mark" 2 (sp_Registry_mark tp) := by
  obtain ⟨C, f, fd, kC, hC, hM, F, b⟩ := F.ex
  obtain ⟨c0, hc0, TB⟩ := T.t_Registry_mark.ex _ _ kC hM.at_
  refine ⟨C, f, fd, _, kC, hC, hM, dfnC F sc_Registry_mark (by intro ds w Q h; first | exact h.elim | (unfold sp_Registry_mark at h; first | (obtain ⟨rfl, _⟩ := h; rfl) | (obtain ⟨_, rfl, _⟩ := h; rfl) | (obtain ⟨_, _, rfl, _⟩ := h; rfl) | (obtain ⟨_, _, _, rfl, _⟩ := h; rfl) | (obtain ⟨_, _, _, _, rfl, _⟩ := h; rfl) | (obtain ⟨_, _, _, _, _, rfl, _⟩ := h; rfl) | (obtain ⟨_, _, _, _, _, _, rfl, _⟩ := h; rfl) | (obtain ⟨_, _, _, _, _, _, _, rfl, _⟩ := h; rfl) | (obtain ⟨_, _, _, _, _, _, _, _, rfl, _⟩ := h; rfl) | (split at h <;> first | rfl | exact h.elim))) ?_, b, rfl⟩
  intro cdv hcdl A outer s H E hr hgd
  obtain rfl := hcdl c0 hc0
  have hu := hu_of hr
  have nd := sc_Registry_mark.nd
  refine ⟨_, (dss_one (ds_expr (de_methL (P := tp "Registry.mark") (q := "Registry.mark.<locals>.<lambda>") (C_Registry_logged _) TB rfl rfl hr hgd (takes_of rfl rfl rfl rfl) (dv 0) de_str rfl (fun A outer s H E f c1 hr hgd tk => have hu := hu_of hr; (de_meth (DMet.mono C_Registry_do_mark (by decide)) hr hgd tk (dv 0) (da_cons (dv 1) da_nil)))))), ?_⟩
  intro ds w Q h
  obtain ⟨m0, d, S, n, rfl, hR, hl, hT, hn, hl1, hl2, hq⟩ := h
  have hR' := hR
  obtain ⟨dx, e, k0, v, hm⟩ := hR'
  refine ⟨dx, rgF e k0 v, hm.hd, rfl, hm.keep _ _ hT, ?_⟩
  rintro fa mo hn2 ⟨o, c1, σ, rfl⟩
  refine cmd_logged "mark" hR hl hn2 (R := markTo (S.log "mark") n) (by rw [markTo_st]; exact log_len hl) (fun w1 Q1 h1 h2 => ?_) (hq.non (markTo_non _ _))
  obtain ⟨dx1, e1, k1, v1, hm1⟩ := h1
  exact ⟨dx1, rgF e1 k1 v1, hm1.hd, rfl, _, d, _, n, rfl, ⟨dx1, e1, k1, v1, hm1⟩, hn, hl1, hl2, h2.inn _⟩
def sp_Entry___init__ : DSp := fun ds w Q => ∃ p dx a b c, ds = [.ref p, a, b, c] ∧ w.m p = some (.ins "Entry" dx []) ∧ Q .non (w.put p (.ins "Entry" dx [("content", a), ("costs", b), ("amount", c)]))
theorem ok_Entry___init__ (T : Tx K mg base tp) (F : FnMk K mg "Entry" "Entry.__init__" s_Entry___init__ ["self", "content", "costs", "amount"])  : DMak P w K mg base 1 "Entry" 4 sp_Entry___init__ := by
  obtain ⟨C, f, fd, kC, hC, hM, F, b⟩ := F.ex
  refine ⟨C, f, fd, _, kC, hC, hM, dfn F sc_Entry___init__ (by intro ds w Q h; first | exact h.elim | (unfold sp_Entry___init__ at h; first | (obtain ⟨rfl, _⟩ := h; rfl) | (obtain ⟨_, rfl, _⟩ := h; rfl) | (obtain ⟨_, _, rfl, _⟩ := h; rfl) | (obtain ⟨_, _, _, rfl, _⟩ := h; rfl) | (obtain ⟨_, _, _, _, rfl, _⟩ := h; rfl) | (obtain ⟨_, _, _, _, _, rfl, _⟩ := h; rfl) | (obtain ⟨_, _, _, _, _, _, rfl, _⟩ := h; rfl) | (obtain ⟨_, _, _, _, _, _, _, rfl, _⟩ := h; rfl) | (obtain ⟨_, _, _, _, _, _, _, _, rfl, _⟩ := h; rfl) | (split at h <;> first | rfl | exact h.elim))) ?_, b, rfl⟩
  intro cdv A outer s H E hr hgd
  have hu := hu_of hr
  have nd := sc_Entry___init__.nd
  refine ⟨_, (dss_cons (ds_fld T.f_Entry_content (dv 0) (dv 1))
      (dss_cons (ds_fld T.f_Entry_costs (dv 0) (dv 2))
      (dss_one (ds_fld T.f_Entry_amount (dv 0) (dv 3))))), ?_⟩
  intro ds w Q h
  obtain ⟨p, dx, a, b, c, rfl, hp, hq⟩ := h
  refine ⟨dx, _, hp, by decide, ?_⟩
  refine ⟨dx, _, W.put_at, Nat.lt_of_le_of_lt (putFD_le (Nat.le_refl 0)) (by decide), ?_⟩
  refine ⟨dx, _, W.put_at, Nat.lt_of_le_of_lt (putFD_le (putFD_le (Nat.le_refl 0))) (by decide), ?_⟩
  dsimp only
  rw [W.put_put, W.put_put]
  exact hq
def sp_ascending : DSp := fun ds w Q => match ds with
  | [.dic kvs] => strKeys kvs ∧ kvs.length ≤ sizeLine ∧ Q (.dic (ascD kvs)) w
  | _ => False
theorem ok_ascending (T : Tx K mg base tp) (F : FnAt K mg "ascending" s_ascending ["table"])  : DCal P w K mg base 1 "ascending" 1 sp_ascending := by
  obtain ⟨f, fd, F, hm, b⟩ := F.ex
  refine ⟨f, fd, _, dfn F sc_ascending (by intro ds w Q h; first | exact h.elim | (unfold sp_ascending at h; first | (obtain ⟨rfl, _⟩ := h; rfl) | (obtain ⟨_, rfl, _⟩ := h; rfl) | (obtain ⟨_, _, rfl, _⟩ := h; rfl) | (obtain ⟨_, _, _, rfl, _⟩ := h; rfl) | (obtain ⟨_, _, _, _, rfl, _⟩ := h; rfl) | (obtain ⟨_, _, _, _, _, rfl, _⟩ := h; rfl) | (obtain ⟨_, _, _, _, _, _, rfl, _⟩ := h; rfl) | (obtain ⟨_, _, _, _, _, _, _, rfl, _⟩ := h; rfl) | (obtain ⟨_, _, _, _, _, _, _, _, rfl, _⟩ := h; rfl) | (split at h <;> first | rfl | exact h.elim))) ?_, hm, F.kp, b, rfl⟩
  intro cdv A outer s H E hr hgd
  have hu := hu_of hr
  have nd := sc_ascending.nd
  refine ⟨_, (dss_one (ds_ret (de_dcG (own := [("key", 1)]) finD_ok rfl nd (di_any (de_callB (cd_sorted rfl hr.units) T.b_sorted (da_cons (dv 0) da_nil))) (by kernel_rfl) (fun _ _ _ _ _ => (dg_name 1 nd)) (fun _ _ _ _ _ => dts_nil) (fun _ _ _ _ _ => (dv 1)) (fun _ _ _ _ _ => (de_sub hu (dv 0) (dv 1)))))), ?_⟩
  intro ds w Q h
  unfold sp_ascending at h
  split at h
  · rename_i kvs
    obtain ⟨⟨ss, hk, hn⟩, hz, hq⟩ := h
    have hl : ss.length = kvs.length := by simpa using (congrArg List.length hk).symm
    refine ⟨ss, hk, ?_⟩
    refine dc_map (fun x => match x with | .str s => Sum.inr s | _ => Sum.inl 0) (fun x => match x with | .str s => (valD kvs (.inr s)).getD .non | _ => .non) (by rw [List.length_map, sortT_len, hl]; exact hz) ?_ (fun y hy R hR => ?_) ?_
    · rw [List.map_map]
      have e : ((fun x : D => match x with | .str s => (Sum.inr s : Key) | _ => Sum.inl 0) ∘ D.str) = Sum.inr := rfl
      rw [e]
      exact List.Pairwise.map _ (fun a b hne he => hne (Sum.inr.inj he)) ((sortT_perm ss).nodup_iff.mpr hn)
    · obtain ⟨s, hs, rfl⟩ := List.mem_map.mp hy
      have hm : Sum.inr s ∈ kvs.map (·.1) := by
        rw [hk]; exact List.mem_map.mpr ⟨s, (sortT_perm ss).mem_iff.mp hs, rfl⟩
      obtain ⟨kv, hkv, ekv⟩ := List.mem_map.mp hm
      obtain ⟨k, v⟩ := kv
      obtain rfl : k = Sum.inr s := ekv
      obtain ⟨d, hd⟩ := valD_mem hkv
      refine ⟨.inr s, d, rfl, hd, .inr s, rfl, ?_⟩
      have hR : R (.inr s) ((valD kvs (.inr s)).getD .non) w.mute := hR
      rw [hd] at hR
      exact hR
    · have e : ascD kvs = ((sortT ss).map D.str).map fun x => ((match x with | .str s => Sum.inr s | _ => Sum.inl 0 : Key), (match x with | .str s => (valD kvs (.inr s)).getD .non | _ => .non : D)) := by
        unfold ascD
        rw [strKeys_eq hk, List.map_map]
        rfl
      rw [e] at hq
      exact hq
  · exact h.elim
def sp_are_words : DSp := fun ds w Q => match ds with
  | [d] => pl d = true ∧ (∀ xs, d = .lst xs ∨ d = .tup xs → xs.length ≤ sizeLine) ∧ Q (.bl (isWords d)) w
  | _ => False
theorem ok_are_words (T : Tx K mg base tp) (F : FnAt K mg "are_words" s_are_words ["thing"]) (C_is_word : DCal P w K mg base 1 "is_word" 1 sp_is_word) : DCal P w K mg base 2 "are_words" 1 sp_are_words := by
  obtain ⟨f, fd, F, hm, b⟩ := F.ex
  refine ⟨f, fd, _, dfn F sc_are_words (by intro ds w Q h; first | exact h.elim | (unfold sp_are_words at h; first | (obtain ⟨rfl, _⟩ := h; rfl) | (obtain ⟨_, rfl, _⟩ := h; rfl) | (obtain ⟨_, _, rfl, _⟩ := h; rfl) | (obtain ⟨_, _, _, rfl, _⟩ := h; rfl) | (obtain ⟨_, _, _, _, rfl, _⟩ := h; rfl) | (obtain ⟨_, _, _, _, _, rfl, _⟩ := h; rfl) | (obtain ⟨_, _, _, _, _, _, rfl, _⟩ := h; rfl) | (obtain ⟨_, _, _, _, _, _, _, rfl, _⟩ := h; rfl) | (obtain ⟨_, _, _, _, _, _, _, _, rfl, _⟩ := h; rfl) | (split at h <;> first | rfl | exact h.elim))) ?_, hm, F.kp, b, rfl⟩
  intro cdv A outer s H E hr hgd
  have hu := hu_of hr
  have nd := sc_are_words.nd
  refine ⟨_, (dss_one (ds_ret (de_and (de_isiT T.b_isinstance (dv 0) (da_cons (de_ty (n := "tuple") T.b_tuple) (da_cons (de_ty (n := "list") T.b_list) da_nil))) (de_one (de_callB (cd_all rfl) T.b_all (da_cons (de_lcG (own := [("word", 1)]) finL_ok rfl nd (di_any (dv 0)) (by kernel_rfl) (fun _ _ _ _ _ => (dg_name 1 nd)) (fun _ _ _ _ _ => dts_nil) (fun _ _ _ _ _ => (de_call (DCal.mono C_is_word (by decide)) hr hgd takes0 (da_cons (dv 1) da_nil)))) da_nil)))))), ?_⟩
  intro ds w Q h
  match ds, h with
  | [d], h =>
    obtain ⟨h1, hz, h2⟩ := h
    cases d with
    | lst xs =>
      have hk : plL xs = true := by unfold pl at h1; exact h1
      refine ⟨sz_nat 2, _, _, true, rfl, rfl, by decide +kernel, ?_⟩
      refine lc_map (fun x => .bl (isWord x)) (hz xs (.inl rfl)) (fun y hy R hR => ⟨pl_plain (plL_mem hk hy), hR⟩) (all_bl _ ?_)
      rw [all_id]
      exact h2
    | tup xs =>
      have hk : plL xs = true := by unfold pl at h1; exact h1
      refine ⟨sz_nat 2, _, _, true, rfl, rfl, by decide +kernel, ?_⟩
      refine lc_map (fun x => .bl (isWord x)) (hz xs (.inr rfl)) (fun y hy R hR => ⟨pl_plain (plL_mem hk hy), hR⟩) (all_bl _ ?_)
      rw [all_id]
      exact h2
    | non => exact ⟨sz_nat 2, _, _, false, rfl, rfl, by decide +kernel, h2⟩
    | bl b => exact ⟨sz_nat 2, _, _, false, rfl, rfl, by decide +kernel, h2⟩
    | int i => exact ⟨sz_nat 2, _, _, false, rfl, rfl, by decide +kernel, h2⟩
    | str xs => exact ⟨sz_nat 2, _, _, false, rfl, rfl, by decide +kernel, h2⟩
    | dic xs => exact ⟨sz_nat 2, _, _, false, rfl, rfl, by decide +kernel, h2⟩
    | _ => cases h1
def sp_is_key : DSp := fun ds w Q => match ds with
  | [.dic kvs, d] => pl d = true ∧ Q (.bl (isKey kvs d)) w
  | _ => False
theorem ok_is_key (T : Tx K mg base tp) (F : FnAt K mg "is_key" s_is_key ["table", "thing"])  : DCal P w K mg base 1 "is_key" 2 sp_is_key := by
  obtain ⟨f, fd, F, hm, b⟩ := F.ex
  refine ⟨f, fd, _, dfn F sc_is_key (by intro ds w Q h; first | exact h.elim | (unfold sp_is_key at h; first | (obtain ⟨rfl, _⟩ := h; rfl) | (obtain ⟨_, rfl, _⟩ := h; rfl) | (obtain ⟨_, _, rfl, _⟩ := h; rfl) | (obtain ⟨_, _, _, rfl, _⟩ := h; rfl) | (obtain ⟨_, _, _, _, rfl, _⟩ := h; rfl) | (obtain ⟨_, _, _, _, _, rfl, _⟩ := h; rfl) | (obtain ⟨_, _, _, _, _, _, rfl, _⟩ := h; rfl) | (obtain ⟨_, _, _, _, _, _, _, rfl, _⟩ := h; rfl) | (obtain ⟨_, _, _, _, _, _, _, _, rfl, _⟩ := h; rfl) | (split at h <;> first | rfl | exact h.elim))) ?_, hm, F.kp, b, rfl⟩
  intro cdv A outer s H E hr hgd
  have hu := hu_of hr
  have nd := sc_is_key.nd
  refine ⟨_, (dss_one (ds_ret (de_and (de_callB cd_isi T.b_isinstance (da_cons (dv 1) (da_cons (de_ty (n := "str") T.b_str) da_nil))) (de_one (de_cmp (od_in hu) (dv 1) (dv 0)))))), ?_⟩
  intro ds w Q h
  unfold sp_is_key at h
  split at h
  · rename_i kvs d
    obtain ⟨h1, h2⟩ := h
    cases d with
    | str x =>
      refine ⟨_, true, rfl, by decide +kernel, _, rfl, ?_⟩
      show Q (.bl (false ^^ (valD kvs (.inr x)).isSome)) w
      rw [Bool.false_xor]
      exact h2
    | tup xs => exact ⟨_, false, rfl, by decide +kernel, h2⟩
    | non => exact ⟨_, false, rfl, by decide +kernel, h2⟩
    | bl b => exact ⟨_, false, rfl, by decide +kernel, h2⟩
    | int i => exact ⟨_, false, rfl, by decide +kernel, h2⟩
    | lst xs => exact ⟨_, false, rfl, by decide +kernel, h2⟩
    | dic xs => exact ⟨_, false, rfl, by decide +kernel, h2⟩
    | _ => cases h1
  · exact h.elim
def sp_is_pair : DSp := fun ds w Q => match ds with
  | [d] => pl d = true ∧ Q (.bl (isPair d)) w
  | _ => False
theorem ok_is_pair (T : Tx K mg base tp) (F : FnAt K mg "is_pair" s_is_pair ["thing"])  : DCal P w K mg base 1 "is_pair" 1 sp_is_pair := by
  obtain ⟨f, fd, F, hm, b⟩ := F.ex
  refine ⟨f, fd, _, dfn F sc_is_pair (by intro ds w Q h; first | exact h.elim | (unfold sp_is_pair at h; first | (obtain ⟨rfl, _⟩ := h; rfl) | (obtain ⟨_, rfl, _⟩ := h; rfl) | (obtain ⟨_, _, rfl, _⟩ := h; rfl) | (obtain ⟨_, _, _, rfl, _⟩ := h; rfl) | (obtain ⟨_, _, _, _, rfl, _⟩ := h; rfl) | (obtain ⟨_, _, _, _, _, rfl, _⟩ := h; rfl) | (obtain ⟨_, _, _, _, _, _, rfl, _⟩ := h; rfl) | (obtain ⟨_, _, _, _, _, _, _, rfl, _⟩ := h; rfl) | (obtain ⟨_, _, _, _, _, _, _, _, rfl, _⟩ := h; rfl) | (split at h <;> first | rfl | exact h.elim))) ?_, hm, F.kp, b, rfl⟩
  intro cdv A outer s H E hr hgd
  have hu := hu_of hr
  have nd := sc_is_pair.nd
  refine ⟨_, (dss_one (ds_ret (de_and (de_callB cd_isi T.b_isinstance (da_cons (dv 0) (da_cons (de_ty (n := "tuple") T.b_tuple) da_nil))) (de_one (de_cmp (od_eq hr.units) (de_callB cd_len T.b_len (da_cons (dv 0) da_nil)) de_int))))), ?_⟩
  intro ds w Q h
  match ds, h with
  | [d], h =>
    obtain ⟨h1, h2⟩ := h
    cases d with
    | tup xs =>
      refine ⟨_, true, rfl, by decide +kernel, ?_⟩
      show Q (.bl (false ^^ decide ((xs.length : Int) = 2))) w
      rw [Bool.false_xor]
      exact h2
    | non => exact ⟨_, false, rfl, by decide +kernel, h2⟩
    | bl b => exact ⟨_, false, rfl, by decide +kernel, h2⟩
    | int i => exact ⟨_, false, rfl, by decide +kernel, h2⟩
    | lst xs => exact ⟨_, false, rfl, by decide +kernel, h2⟩
    | str xs => exact ⟨_, false, rfl, by decide +kernel, h2⟩
    | dic xs => exact ⟨_, false, rfl, by decide +kernel, h2⟩
    | _ => cases h1
def sp_are_bindings : DSp := fun ds w Q => match ds with
  | [.dic scopes, d] => pl d = true ∧ (∀ kvs, d = .dic kvs → kvs.length ≤ sizeLine) ∧ Q (.bl (areBnds scopes d)) w
  | _ => False
theorem ok_are_bindings (T : Tx K mg base tp) (F : FnAt K mg "are_bindings" s_are_bindings ["scopes", "thing"]) (C_is_word : DCal P w K mg base 1 "is_word" 1 sp_is_word) (C_is_key : DCal P w K mg base 1 "is_key" 2 sp_is_key) (C_is_pair : DCal P w K mg base 1 "is_pair" 1 sp_is_pair) : DCal P w K mg base 2 "are_bindings" 2 sp_are_bindings := by
  obtain ⟨f, fd, F, hm, b⟩ := F.ex
  refine ⟨f, fd, _, dfn F sc_are_bindings (by intro ds w Q h; first | exact h.elim | (unfold sp_are_bindings at h; first | (obtain ⟨rfl, _⟩ := h; rfl) | (obtain ⟨_, rfl, _⟩ := h; rfl) | (obtain ⟨_, _, rfl, _⟩ := h; rfl) | (obtain ⟨_, _, _, rfl, _⟩ := h; rfl) | (obtain ⟨_, _, _, _, rfl, _⟩ := h; rfl) | (obtain ⟨_, _, _, _, _, rfl, _⟩ := h; rfl) | (obtain ⟨_, _, _, _, _, _, rfl, _⟩ := h; rfl) | (obtain ⟨_, _, _, _, _, _, _, rfl, _⟩ := h; rfl) | (obtain ⟨_, _, _, _, _, _, _, _, rfl, _⟩ := h; rfl) | (split at h <;> first | rfl | exact h.elim))) ?_, hm, F.kp, b, rfl⟩
  intro cdv A outer s H E hr hgd
  have hu := hu_of hr
  have nd := sc_are_bindings.nd
  refine ⟨_, (dss_cons (ds_if (dt_w (dw_or (dt_not (dt_val (de_callB cd_isi T.b_isinstance (da_cons (dv 1) (da_cons (de_ty (n := "dict") T.b_dict) da_nil))))) (dw_or1 (dt_not (dt_val (de_callB (cd_all rfl) T.b_all (da_cons (de_lcG (own := [("name", 2), ("pair", 3)]) finL_ok rfl nd (di_items (dv 1)) (by kernel_rfl) (fun _ _ _ _ _ => (dg_tup (n := 2) rfl (dgs_cons (dg_name 2 nd) (dgs_cons (dg_name 3 nd) dgs_nil)))) (fun _ _ _ _ _ => dts_nil) (fun _ _ _ _ _ => (de_and (de_call (DCal.mono C_is_word (by decide)) hr hgd takes0 (da_cons (dv 2) da_nil)) (de_one (de_call (DCal.mono C_is_pair (by decide)) hr hgd takes0 (da_cons (dv 3) da_nil)))))) da_nil))))))) (dss_one (ds_ret de_bl)) dss_nil)
      (dss_one (ds_ret (de_callB (cd_all rfl) T.b_all (da_cons (de_lcG (own := [("scope", 4), ("word", 5)]) finL_ok rfl nd (di_values (dv 1)) (by kernel_rfl) (fun _ _ _ _ _ => (dg_tup (n := 2) rfl (dgs_cons (dg_name 4 nd) (dgs_cons (dg_name 5 nd) dgs_nil)))) (fun _ _ _ _ _ => dts_nil) (fun _ _ _ _ _ => (de_and (de_call (DCal.mono C_is_key (by decide)) hr hgd takes0 (da_cons (dv 0) (da_cons (dv 4) da_nil))) (de_one (de_call (DCal.mono C_is_word (by decide)) hr hgd takes0 (da_cons (dv 5) da_nil)))))) da_nil))))), ?_⟩
  intro ds w Q h
  unfold sp_are_bindings at h
  split at h
  · rename_i scopes d
    obtain ⟨h1, hz, h2⟩ := h
    cases d with
    | dic kvs =>
      have hz := hz kvs rfl
      have hk : plK kvs = true := by unfold pl at h1; exact h1
      have zi : (ditems kvs).length ≤ sizeLine := by unfold ditems; rw [List.length_map]; omega
      have zv : (dvals kvs).length ≤ sizeLine := by unfold dvals; rw [List.length_map]; omega
      have fin : areBnds scopes (.dic kvs) = false → Q (.bl false) w := fun e => by rw [e] at h2; exact h2
      refine ⟨_, true, rfl, by decide +kernel, ?_⟩
      refine lc_map (fun p => .bl (match p with | .tup [k, v] => isWord k && isPair v | _ => false)) zi (fun y hy R hR => ?_) (all_bl _ ?_)
      · obtain ⟨k, v, hm, rfl⟩ := mem_ditems hy
        have q := plK_key hk hm
        refine ⟨rfl, rfl, pl_plain q.1, ?_⟩
        have hR : R (.bl (isWord (kD k) && isPair v)) w.mute := hR
        refine ifb (fun e => ?_) (fun e => ?_)
        · rw [e, Bool.true_and] at hR
          exact ⟨q.2, hR⟩
        · rw [e, Bool.false_and] at hR
          exact hR
      rw [all_id]
      refine ifn (fun c1 => ?_) (fun c1 => fin (by rw [areBnds_dic, show namesPairs kvs = false from c1]; rfl))
      refine lc_map (fun d => .bl (isBnd scopes d)) zv (fun y hy R hR => ?_) (all_bl _ ?_)
      · obtain ⟨k, hm⟩ := mem_dvals hy
        have q := List.all_eq_true.mp c1 _ (List.mem_map.mpr ⟨_, hm, rfl⟩)
        have q : (isWord (kD k) && isPair y) = true := q
        rw [Bool.and_eq_true] at q
        obtain ⟨a, b, rfl⟩ := isPair_tup q.2
        have pp := pl_pair (plK_key hk hm).2
        refine ⟨rfl, rfl, pp.1, ?_⟩
        have hR : R (.bl (isKey scopes a && isWord b)) w.mute := hR
        refine ifb (fun e => ?_) (fun e => ?_)
        · rw [e, Bool.true_and] at hR
          exact ⟨pl_plain pp.2, hR⟩
        · rw [e, Bool.false_and] at hR
          exact hR
      rw [all_id]
      rw [areBnds_dic, show namesPairs kvs = true from c1, Bool.true_and] at h2
      exact h2
    | non => exact ⟨_, false, rfl, by decide +kernel, h2⟩
    | bl b => exact ⟨_, false, rfl, by decide +kernel, h2⟩
    | int i => exact ⟨_, false, rfl, by decide +kernel, h2⟩
    | lst xs => exact ⟨_, false, rfl, by decide +kernel, h2⟩
    | str xs => exact ⟨_, false, rfl, by decide +kernel, h2⟩
    | tup xs => exact ⟨_, false, rfl, by decide +kernel, h2⟩
    | _ => cases h1
  · exact h.elim
def sp_way_out : DSp := fun ds w Q => match ds with
  | [.dic kvs, .str x] => Closed kvs ∧ (valD kvs (.inr x)).isSome = true ∧ kvs.length < sizeLine ∧ Q (.lst ((wayOut kvs x).map .str)) w
  | _ => False
theorem ok_way_out (T : Tx K mg base tp) (F : FnAt K mg "way_out" s_way_out ["scopes", "scope"])  : DCal P w K mg base 1 "way_out" 2 sp_way_out := by
  obtain ⟨f, fd, F, hm, b⟩ := F.ex
  refine ⟨f, fd, _, dfn F sc_way_out (by intro ds w Q h; first | exact h.elim | (unfold sp_way_out at h; first | (obtain ⟨rfl, _⟩ := h; rfl) | (obtain ⟨_, rfl, _⟩ := h; rfl) | (obtain ⟨_, _, rfl, _⟩ := h; rfl) | (obtain ⟨_, _, _, rfl, _⟩ := h; rfl) | (obtain ⟨_, _, _, _, rfl, _⟩ := h; rfl) | (obtain ⟨_, _, _, _, _, rfl, _⟩ := h; rfl) | (obtain ⟨_, _, _, _, _, _, rfl, _⟩ := h; rfl) | (obtain ⟨_, _, _, _, _, _, _, rfl, _⟩ := h; rfl) | (obtain ⟨_, _, _, _, _, _, _, _, rfl, _⟩ := h; rfl) | (split at h <;> first | rfl | exact h.elim))) ?_, hm, F.kp, b, rfl⟩
  intro cdv A outer s H E hr hgd
  have hu := hu_of hr
  have nd := sc_way_out.nd
  refine ⟨_, (dss_cons (ds_set (i := 2) nd (de_lstM (da_cons (dv 1) da_nil)))
      (dss_cons (ds_while (passes_of rfl) (dt_w (dw_and (dt_cmp od_le (de_callB cd_len T.b_len (da_cons (dv 2) da_nil)) (de_callB cd_len T.b_len (da_cons (dv 0) da_nil))) (dw_and1 (dt_cmp od_isnot (de_sub hu (dv 0) (de_sub hu (dv 2) (de_neg de_int))) de_non)))) (dss_one (ds_expr (de_bm PySem.F.slot_list_append PySem.F.type_list_append md_append (dv 2) (da_cons (de_sub hu (dv 0) (de_sub hu (dv 2) (de_neg de_int))) da_nil)))))
      (dss_one (ds_ret (de_frz (dv 2)))))), ?_⟩
  intro ds w Q h
  unfold sp_way_out at h
  split at h
  · rename_i kvs x
    obtain ⟨hc, hx, hz, hq⟩ := h
    refine ⟨sz_nat 1, fun p hp => ?_⟩
    refine ⟨fun (m : Nat) (env : En) (w2 : W) => ∃ (pre : List Str) (last : Str), w2 = w.put p (.lst ((pre ++ [last]).map .str)) ∧ env = [some (.dic kvs), some (.str x), some (.ref p)] ∧ pre.length + m = kvs.length ∧
      (valD kvs (.inr last)).isSome = true ∧ pre ++ wayGo kvs m last = wayOut kvs x, ⟨kvs.length, [], x, rfl, rfl, Nat.zero_add _, hx, rfl⟩, ?_⟩
    rintro m env w2 ⟨pre, last, rfl, rfl, hm, hl, hw⟩
    have at1 : (w.put p (.lst ((pre ++ [last]).map .str))).m p = some (.lst ((pre ++ [last]).map .str)) := W.put_at
    have len1 : ((pre ++ [last]).map D.str).length = pre.length + 1 := by simp
    have ix : atI ((pre ++ [last]).map D.str) (-1) = some (.str last) := by
      rw [List.map_append]; exact DL.atI_last _ _
    have fin : (pre ++ [last]) = wayOut kvs x → Q (.lst ((pre ++ [last]).map .str)) ((w.put p (.lst ((pre ++ [last]).map .str))).del p) := fun e => by
      rw [W.del_put hp, e]; exact hq
    refine Or.inl ⟨_, at1, ?_⟩
    refine ifd (fun c1 => ?_) (fun c1 => ?_)
    · obtain ⟨m', rfl⟩ : ∃ m', m = m' + 1 := ⟨m - 1, by omega⟩
      obtain ⟨d, hd⟩ := Option.isSome_iff_exists.mp hl
      refine Or.inl ⟨_, -1, .str last, at1, rfl, ix, ?_⟩
      refine ⟨.inr last, d, rfl, hd, ?_⟩
      rcases hc last d hd with rfl | ⟨y, rfl, hy⟩
      · refine ⟨_, at1, fin ?_⟩
        rw [← hw]
        unfold wayGo
        rw [hd]
      · refine ⟨⟨_, at1⟩, ?_⟩
        refine Or.inl ⟨_, -1, .str last, at1, rfl, ix, ?_⟩
        refine ⟨.inr last, .str y, rfl, hd, ?_⟩
        refine ⟨_, at1, by rw [len1]; omega, m', Nat.lt_succ_self _, pre ++ [last], y, ?_, rfl, by simp; omega, hy, ?_⟩
        · rw [W.put_put, List.map_append (l₁ := pre ++ [last])]
          rfl
        · rw [← hw]
          conv => rhs; unfold wayGo
          rw [hd]
          simp
    · have e : m = 0 := by omega
      subst e
      exact ⟨_, at1, fin (by rw [← hw]; rfl)⟩
  · exact h.elim
def sp_are_uses : DSp := fun ds w Q => match ds with
  | [.dic scopes, .dic bnds, d] => TreeLike scopes ∧ scopes.length < sizeLine ∧ areBnds scopes (.dic bnds) = true ∧ pl d = true ∧ (∀ kvs, d = .dic kvs → kvs.length ≤ sizeLine) ∧ Q (.bl (areUses scopes bnds d)) w
  | _ => False
theorem ok_are_uses (T : Tx K mg base tp) (F : FnAt K mg "are_uses" s_are_uses ["scopes", "bindings", "thing"]) (C_way_out : DCal P w K mg base 1 "way_out" 2 sp_way_out) (C_is_key : DCal P w K mg base 1 "is_key" 2 sp_is_key) (C_is_pair : DCal P w K mg base 1 "is_pair" 1 sp_is_pair) (C_is_word : DCal P w K mg base 1 "is_word" 1 sp_is_word) : DCal P w K mg base 2 "are_uses" 3 sp_are_uses := by
  obtain ⟨f, fd, F, hm, b⟩ := F.ex
  refine ⟨f, fd, _, dfn F sc_are_uses (by intro ds w Q h; first | exact h.elim | (unfold sp_are_uses at h; first | (obtain ⟨rfl, _⟩ := h; rfl) | (obtain ⟨_, rfl, _⟩ := h; rfl) | (obtain ⟨_, _, rfl, _⟩ := h; rfl) | (obtain ⟨_, _, _, rfl, _⟩ := h; rfl) | (obtain ⟨_, _, _, _, rfl, _⟩ := h; rfl) | (obtain ⟨_, _, _, _, _, rfl, _⟩ := h; rfl) | (obtain ⟨_, _, _, _, _, _, rfl, _⟩ := h; rfl) | (obtain ⟨_, _, _, _, _, _, _, rfl, _⟩ := h; rfl) | (obtain ⟨_, _, _, _, _, _, _, _, rfl, _⟩ := h; rfl) | (split at h <;> first | rfl | exact h.elim))) ?_, hm, F.kp, b, rfl⟩
  intro cdv A outer s H E hr hgd
  have hu := hu_of hr
  have nd := sc_are_uses.nd
  refine ⟨_, (dss_cons (ds_if (dt_w (dw_or (dt_not (dt_val (de_callB cd_isi T.b_isinstance (da_cons (dv 2) (da_cons (de_ty (n := "dict") T.b_dict) da_nil))))) (dw_or1 (dt_not (dt_val (de_callB (cd_all rfl) T.b_all (da_cons (de_lcG (own := [("name", 3), ("pair", 4)]) finL_ok rfl nd (di_items (dv 2)) (by kernel_rfl) (fun _ _ _ _ _ => (dg_tup (n := 2) rfl (dgs_cons (dg_name 3 nd) (dgs_cons (dg_name 4 nd) dgs_nil)))) (fun _ _ _ _ _ => dts_nil) (fun _ _ _ _ _ => (de_and (de_call (DCal.mono C_is_word (by decide)) hr hgd takes0 (da_cons (dv 3) da_nil)) (de_one (de_call (DCal.mono C_is_pair (by decide)) hr hgd takes0 (da_cons (dv 4) da_nil)))))) da_nil))))))) (dss_one (ds_ret de_bl)) dss_nil)
      (dss_cons (ds_if (dt_not (dt_val (de_callB (cd_all rfl) T.b_all (da_cons (de_lcG (own := [("scope", 5), ("target", 6)]) finL_ok rfl nd (di_values (dv 2)) (by kernel_rfl) (fun _ _ _ _ _ => (dg_tup (n := 2) rfl (dgs_cons (dg_name 5 nd) (dgs_cons (dg_name 6 nd) dgs_nil)))) (fun _ _ _ _ _ => dts_nil) (fun _ _ _ _ _ => (de_and (de_call (DCal.mono C_is_key (by decide)) hr hgd takes0 (da_cons (dv 0) (da_cons (dv 5) da_nil))) (de_one (de_call (DCal.mono C_is_key (by decide)) hr hgd takes0 (da_cons (dv 1) (da_cons (dv 6) da_nil))))))) da_nil)))) (dss_one (ds_ret de_bl)) dss_nil)
      (dss_one (ds_ret (de_callB (cd_all rfl) T.b_all (da_cons (de_lcG (own := [("scope", 5), ("target", 6)]) finL_ok rfl nd (di_values (dv 2)) (by kernel_rfl) (fun _ _ _ _ _ => (dg_tup (n := 2) rfl (dgs_cons (dg_name 5 nd) (dgs_cons (dg_name 6 nd) dgs_nil)))) (fun _ _ _ _ _ => dts_nil) (fun _ _ _ _ _ => (de_cmp (od_in hu) (de_sub hu (de_sub hu (dv 1) (dv 6)) de_int) (de_call (DCal.mono C_way_out (by decide)) hr hgd takes0 (da_cons (dv 0) (da_cons (dv 5) da_nil)))))) da_nil)))))), ?_⟩
  intro ds w Q h
  unfold sp_are_uses at h
  split at h
  · rename_i scopes bnds d
    obtain ⟨tl, hs, hb, h1, hz, h2⟩ := h
    cases d with
    | dic kvs =>
      have hz := hz kvs rfl
      have hk : plK kvs = true := by unfold pl at h1; exact h1
      have zi : (ditems kvs).length ≤ sizeLine := by unfold ditems; rw [List.length_map]; omega
      have zv : (dvals kvs).length ≤ sizeLine := by unfold dvals; rw [List.length_map]; omega
      have fin : areUses scopes bnds (.dic kvs) = false → Q (.bl false) w := fun e => by rw [e] at h2; exact h2
      refine ⟨_, true, rfl, by decide +kernel, ?_⟩
      refine lc_map (fun p => .bl (match p with | .tup [k, v] => isWord k && isPair v | _ => false)) zi (fun y hy R hR => ?_) (all_bl _ ?_)
      · obtain ⟨k, v, hm, rfl⟩ := mem_ditems hy
        have q := plK_key hk hm
        refine ⟨rfl, rfl, pl_plain q.1, ?_⟩
        have hR : R (.bl (isWord (kD k) && isPair v)) w.mute := hR
        refine ifb (fun e => ?_) (fun e => ?_)
        · rw [e, Bool.true_and] at hR
          exact ⟨q.2, hR⟩
        · rw [e, Bool.false_and] at hR
          exact hR
      rw [all_id]
      refine ifn (fun c1 => ?_) (fun c1 => fin (by rw [areUses_dic, show namesPairs kvs = false from c1]; rfl))
      have pairs : ∀ y ∈ dvals kvs, ∃ a b, y = .tup [a, b] ∧ pl a = true ∧ pl b = true := fun y hy => by
        obtain ⟨k, hm⟩ := mem_dvals hy
        have q := List.all_eq_true.mp c1 _ (List.mem_map.mpr ⟨_, hm, rfl⟩)
        have q : (isWord (kD k) && isPair y) = true := q
        rw [Bool.and_eq_true] at q
        obtain ⟨a, b, rfl⟩ := isPair_tup q.2
        have pp := pl_pair (plK_key hk hm).2
        exact ⟨a, b, rfl, pp.1, pp.2⟩
      refine lc_map (fun d => .bl (keysBoth scopes bnds d)) zv (fun y hy R hR => ?_) (all_bl _ ?_)
      · obtain ⟨a, b, rfl, pa, pb⟩ := pairs y hy
        refine ⟨rfl, rfl, pa, ?_⟩
        have hR : R (.bl (isKey scopes a && isKey bnds b)) w.mute := hR
        refine ifb (fun e => ?_) (fun e => ?_)
        · rw [e, Bool.true_and] at hR
          exact ⟨pb, hR⟩
        · rw [e, Bool.false_and] at hR
          exact hR
      rw [all_id]
      refine ifn (fun c2 => ?_) (fun c2 => fin (by rw [areUses_dic, c2, Bool.false_and, Bool.and_false]))
      refine lc_map (fun d => .bl (useOk scopes bnds d)) zv (fun y hy R hR => ?_) (all_bl _ ?_)
      · obtain ⟨a, b, rfl, pa, pb⟩ := pairs y hy
        have q : (isKey scopes a && isKey bnds b) = true := List.all_eq_true.mp c2 _ hy
        rw [Bool.and_eq_true] at q
        obtain ⟨s, rfl, es⟩ := isKey_str q.1
        obtain ⟨t, rfl, et⟩ := isKey_str q.2
        obtain ⟨v, ev⟩ := Option.isSome_iff_exists.mp et
        obtain ⟨b, x, rfl, _, _⟩ := bnd_at hb ev
        refine ⟨rfl, rfl, .inr t, _, rfl, ev, .str b, rfl, tl.closed, es, hs, ?_⟩
        refine ⟨by rw [scal_strs]; rfl, ?_⟩
        rw [memS_str, Bool.false_xor]
        have e : useOk scopes bnds (.tup [.str s, .str t]) = decide (b ∈ wayOut scopes s) := by
          show (match valD bnds (.inr t) with | some (.tup [.str b, _]) => decide (b ∈ wayOut scopes s) | _ => false) = _
          rw [ev]
        have hR : R (.bl (useOk scopes bnds (.tup [.str s, .str t]))) w.mute := hR
        rw [e] at hR
        exact hR
      rw [all_id]
      rw [areUses_dic, show namesPairs kvs = true from c1, c2, Bool.true_and, Bool.true_and] at h2
      exact h2
    | non => exact ⟨_, false, rfl, by decide +kernel, h2⟩
    | bl b => exact ⟨_, false, rfl, by decide +kernel, h2⟩
    | int i => exact ⟨_, false, rfl, by decide +kernel, h2⟩
    | lst xs => exact ⟨_, false, rfl, by decide +kernel, h2⟩
    | str xs => exact ⟨_, false, rfl, by decide +kernel, h2⟩
    | tup xs => exact ⟨_, false, rfl, by decide +kernel, h2⟩
    | _ => cases h1
  · exact h.elim
def sp_is_tree : DSp := fun ds w Q => match ds with
  | [d] => pl d = true ∧ (∀ kvs, d = .dic kvs → kvs.length < sizeLine) ∧ Q (.bl (isTree d)) w
  | _ => False
theorem ok_is_tree (T : Tx K mg base tp) (F : FnAt K mg "is_tree" s_is_tree ["thing"]) (C_way_out : DCal P w K mg base 1 "way_out" 2 sp_way_out) (C_is_key : DCal P w K mg base 1 "is_key" 2 sp_is_key) (C_is_word : DCal P w K mg base 1 "is_word" 1 sp_is_word) : DCal P w K mg base 2 "is_tree" 1 sp_is_tree := by
  obtain ⟨f, fd, F, hm, b⟩ := F.ex
  refine ⟨f, fd, _, dfn F sc_is_tree (by intro ds w Q h; first | exact h.elim | (unfold sp_is_tree at h; first | (obtain ⟨rfl, _⟩ := h; rfl) | (obtain ⟨_, rfl, _⟩ := h; rfl) | (obtain ⟨_, _, rfl, _⟩ := h; rfl) | (obtain ⟨_, _, _, rfl, _⟩ := h; rfl) | (obtain ⟨_, _, _, _, rfl, _⟩ := h; rfl) | (obtain ⟨_, _, _, _, _, rfl, _⟩ := h; rfl) | (obtain ⟨_, _, _, _, _, _, rfl, _⟩ := h; rfl) | (obtain ⟨_, _, _, _, _, _, _, rfl, _⟩ := h; rfl) | (obtain ⟨_, _, _, _, _, _, _, _, rfl, _⟩ := h; rfl) | (split at h <;> first | rfl | exact h.elim))) ?_, hm, F.kp, b, rfl⟩
  intro cdv A outer s H E hr hgd
  have hu := hu_of hr
  have nd := sc_is_tree.nd
  refine ⟨_, (dss_cons (ds_if (dt_w (dw_or (dt_not (dt_val (de_callB cd_isi T.b_isinstance (da_cons (dv 0) (da_cons (de_ty (n := "dict") T.b_dict) da_nil))))) (dw_or1 (dt_not (dt_val (de_callB (cd_all rfl) T.b_all (da_cons (de_lcG (own := [("scope", 2)]) finL_ok rfl nd (di_any (dv 0)) (by kernel_rfl) (fun _ _ _ _ _ => (dg_name 2 nd)) (fun _ _ _ _ _ => dts_nil) (fun _ _ _ _ _ => (de_call (DCal.mono C_is_word (by decide)) hr hgd takes0 (da_cons (dv 2) da_nil)))) da_nil))))))) (dss_one (ds_ret de_bl)) dss_nil)
      (dss_cons (ds_if (dt_not (dt_val (de_callB (cd_all rfl) T.b_all (da_cons (de_lcG (own := [("parent", 3)]) finL_ok rfl nd (di_values (dv 0)) (by kernel_rfl) (fun _ _ _ _ _ => (dg_name 3 nd)) (fun _ _ _ _ _ => dts_nil) (fun _ _ _ _ _ => (de_or (de_cmp od_is (dv 3) de_non) (de_one (de_call (DCal.mono C_is_key (by decide)) hr hgd takes0 (da_cons (dv 0) (da_cons (dv 3) da_nil))))))) da_nil)))) (dss_one (ds_ret de_bl)) dss_nil)
      (dss_cons (ds_set (i := 1) nd (de_lcG (own := [("scope", 2)]) finL_ok rfl nd (di_any (dv 0)) (by kernel_rfl) (fun _ _ _ _ _ => (dg_name 2 nd)) (fun _ _ _ _ _ => (dts_one (dt_cmp od_is (de_sub hu (dv 0) (dv 2)) de_non))) (fun _ _ _ _ _ => (dv 2))))
      (dss_one (ds_ret (de_and (de_cmp (od_eq hr.units) (de_callB cd_len T.b_len (da_cons (dv 1) da_nil)) de_int) (de_one (de_callB (cd_all rfl) T.b_all (da_cons (de_lcG (own := [("scope", 2)]) finL_ok rfl nd (di_any (dv 0)) (by kernel_rfl) (fun _ _ _ _ _ => (dg_name 2 nd)) (fun _ _ _ _ _ => dts_nil) (fun _ _ _ _ _ => (de_cmp (od_eq hr.units) (de_sub hu (de_call (DCal.mono C_way_out (by decide)) hr hgd takes0 (da_cons (dv 0) (da_cons (dv 2) da_nil))) (de_neg de_int)) (de_sub hu (dv 1) de_int)))) da_nil))))))))), ?_⟩
  intro ds w Q h
  match ds, h with
  | [d], h =>
    obtain ⟨h1, hz, h2⟩ := h
    cases d with
    | dic kvs =>
      have hz := hz kvs rfl
      have hk : plK kvs = true := by unfold pl at h1; exact h1
      have zk : (dkeys kvs).length ≤ sizeLine := by unfold dkeys; rw [List.length_map]; omega
      have zv : (dvals kvs).length ≤ sizeLine := by unfold dvals; rw [List.length_map]; omega
      have fin : isTree (.dic kvs) = false → Q (.bl false) w := fun e => by rw [e] at h2; exact h2
      refine ⟨_, true, rfl, by decide +kernel, ?_⟩
      refine lc_map (fun x => .bl (isWord x)) zk (fun y hy R hR => ?_) (all_bl _ ?_)
      · obtain ⟨k, v, hm, rfl⟩ := mem_dkeys hy
        exact ⟨pl_plain (plK_key hk hm).1, hR⟩
      rw [all_id]
      refine ifn (fun c1 => ?_) (fun c1 => fin (by rw [isTree_dic, c1]; rfl))
      refine lc_map (fun d => .bl (isNon d || isKey kvs d)) zv (fun y hy R hR => ?_) (all_bl _ ?_)
      · obtain ⟨k, hm⟩ := mem_dvals hy
        have py := (plK_key hk hm).2
        cases y <;> first | exact hR | exact ⟨py, hR⟩
      rw [all_id]
      refine ifn (fun c2 => ?_) (fun c2 => fin (by rw [isTree_dic, c2, Bool.false_and, Bool.and_false]))
      have tl := TreeLike.of c1 c2
      refine lc_filter (nonAt kvs) id zk (fun y hy R S hR hS => ?_) ?_
      · obtain ⟨s, rfl, hs⟩ := tl.keys y hy
        obtain ⟨d, hd⟩ := Option.isSome_iff_exists.mp hs
        refine ⟨.inr s, d, rfl, hd, ?_⟩
        have e : nonAt kvs (.str s) = (match some d with | some .non => true | _ => false) := by
          show (match valD kvs (.inr s) with | some .non => true | _ => false) = _
          rw [hd]
        rw [e] at hR hS
        cases d <;> first | exact hR rfl | exact hS rfl
      rw [List.map_id]
      refine ify (fun c3 => ?_) (fun c3 => fin (by rw [isTree_dic, show decide (((rootsOf kvs).length : Int) = 1) = false from c3, Bool.false_and, Bool.and_false, Bool.and_false]))
      have c3 : ((rootsOf kvs).length : Int) = 1 := of_decide_eq_true c3
      obtain ⟨x0, e0⟩ : ∃ x0, rootsOf kvs = [x0] := by
        match e : rootsOf kvs with
        | [] => rw [e] at c3; cases c3
        | [x] => exact ⟨x, rfl⟩
        | _ :: _ :: _ => rw [e] at c3; simp at c3; omega
      obtain ⟨r, rfl, _⟩ := tl.keys x0 (List.mem_filter.mp (show x0 ∈ rootsOf kvs by rw [e0]; exact List.mem_singleton.mpr rfl)).1
      refine lc_map (fun x => .bl (endsAt kvs x)) zk (fun y hy R hR => ?_) (all_bl _ ?_)
      · obtain ⟨s, rfl, hs⟩ := tl.keys y hy
        refine ⟨tl.closed, hs, hz, ?_⟩
        obtain ⟨a, ea, ia⟩ := way_last kvs s
        refine ⟨.str a, ia, ?_⟩
        refine ⟨.str r, (show atI (rootsOf kvs) 0 = some (.str r) by rw [e0]; rfl), ?_⟩
        show R (.bl (false ^^ decide (a = r))) _
        rw [Bool.false_xor]
        have e : endsAt kvs (.str s) = decide (a = r) := by
          show (match (wayOut kvs s).getLast?, (rootsOf kvs).head? with | some a, some (.str b) => decide (a = b) | _, _ => false) = _
          rw [ea, e0]
          rfl
        have hR : R (.bl (endsAt kvs (.str s))) w.mute := hR
        rw [e] at hR
        exact hR
      · rw [all_id]
        rw [isTree_dic, c1, c2, show decide (((rootsOf kvs).length : Int) = 1) = true from decide_eq_true c3, Bool.true_and, Bool.true_and, Bool.true_and] at h2
        exact h2
    | non => exact ⟨_, false, rfl, by decide +kernel, h2⟩
    | bl b => exact ⟨_, false, rfl, by decide +kernel, h2⟩
    | int i => exact ⟨_, false, rfl, by decide +kernel, h2⟩
    | lst xs => exact ⟨_, false, rfl, by decide +kernel, h2⟩
    | str xs => exact ⟨_, false, rfl, by decide +kernel, h2⟩
    | tup xs => exact ⟨_, false, rfl, by decide +kernel, h2⟩
    | _ => cases h1
def sp_is_program : DSp := fun ds w Q => match ds with
  | [s, b, u, o, r] => pl s = true ∧ pl b = true ∧ pl u = true ∧ pl o = true ∧ pl r = true ∧ smallD s ∧ smallD b ∧ smallD u ∧ smallD o ∧ smallD r ∧ Q (.bl (isProg s b u o r)) w
  | _ => False
theorem ok_is_program (T : Tx K mg base tp) (F : FnAt K mg "is_program" s_is_program ["scopes", "bindings", "uses", "outer", "reserved"]) (C_are_words : DCal P w K mg base 2 "are_words" 1 sp_are_words) (C_are_bindings : DCal P w K mg base 2 "are_bindings" 2 sp_are_bindings) (C_are_uses : DCal P w K mg base 2 "are_uses" 3 sp_are_uses) (C_is_tree : DCal P w K mg base 2 "is_tree" 1 sp_is_tree) : DCal P w K mg base 3 "is_program" 5 sp_is_program := by
  obtain ⟨f, fd, F, hm, b⟩ := F.ex
  refine ⟨f, fd, _, dfn F sc_is_program (by intro ds w Q h; first | exact h.elim | (unfold sp_is_program at h; first | (obtain ⟨rfl, _⟩ := h; rfl) | (obtain ⟨_, rfl, _⟩ := h; rfl) | (obtain ⟨_, _, rfl, _⟩ := h; rfl) | (obtain ⟨_, _, _, rfl, _⟩ := h; rfl) | (obtain ⟨_, _, _, _, rfl, _⟩ := h; rfl) | (obtain ⟨_, _, _, _, _, rfl, _⟩ := h; rfl) | (obtain ⟨_, _, _, _, _, _, rfl, _⟩ := h; rfl) | (obtain ⟨_, _, _, _, _, _, _, rfl, _⟩ := h; rfl) | (obtain ⟨_, _, _, _, _, _, _, _, rfl, _⟩ := h; rfl) | (split at h <;> first | rfl | exact h.elim))) ?_, hm, F.kp, b, rfl⟩
  intro cdv A outer s H E hr hgd
  have hu := hu_of hr
  have nd := sc_is_program.nd
  refine ⟨_, (dss_cons (ds_if (dt_w (dw_or (dt_not (dt_val (de_call (DCal.mono C_is_tree (by decide)) hr hgd (takes_of rfl rfl rfl rfl) (da_cons (dv 0) da_nil)))) (dw_or (dt_not (dt_val (de_call (DCal.mono C_are_bindings (by decide)) hr hgd (takes_of rfl rfl rfl rfl) (da_cons (dv 0) (da_cons (dv 1) da_nil))))) (dw_or1 (dt_not (dt_val (de_call (DCal.mono C_are_uses (by decide)) hr hgd (takes_of rfl rfl rfl rfl) (da_cons (dv 0) (da_cons (dv 1) (da_cons (dv 2) da_nil)))))))))) (dss_one (ds_ret de_bl)) dss_nil)
      (dss_cons (ds_if (dt_w (dw_or (dt_not (dt_val (de_call (DCal.mono C_are_bindings (by decide)) hr hgd (takes_of rfl rfl rfl rfl) (da_cons (dv 0) (da_cons (dv 3) da_nil))))) (dw_or1 (dt_not (dt_val (de_call (DCal.mono C_are_words (by decide)) hr hgd (takes_of rfl rfl rfl rfl) (da_cons (dv 4) da_nil))))))) (dss_one (ds_ret de_bl)) dss_nil)
      (dss_one (ds_ret (de_not (de_callB (cd_any rfl) T.b_any (da_cons (de_lcG (own := [("name", 5)]) finL_ok rfl nd (di_any (dv 3)) (by kernel_rfl) (fun _ _ _ _ _ => (dg_name 5 nd)) (fun _ _ _ _ _ => dts_nil) (fun _ _ _ _ _ => (de_cmp (od_in hu) (dv 5) (dv 2)))) da_nil))))))), ?_⟩
  intro ds w Q h
  match ds, h with
  | [s, b, u, o, r], h =>
    obtain ⟨p1, p2, p3, p4, p5, z1, z2, z3, z4, z5, h2⟩ := h
    have fin : isProg s b u o r = false → Q (.bl false) w := fun e => by rw [e] at h2; exact h2
    refine ⟨p1, z1.1, ?_⟩
    refine ifn (fun c1 => ?_) (fun c1 => fin (isProg_no (.inl c1)))
    obtain ⟨sc, rfl, tl⟩ := tree_dic c1
    refine ⟨p2, fun kvs e => Nat.le_of_lt (z2.1 kvs e), ?_⟩
    refine ifn (fun c2 => ?_) (fun c2 => fin (isProg_no (.inr (.inl ⟨sc, rfl, .inl c2⟩))))
    obtain ⟨bn, rfl⟩ := bnds_dic c2
    refine ⟨tl, z1.1 sc rfl, c2, p3, fun kvs e => Nat.le_of_lt (z3.1 kvs e), ?_⟩
    refine ifn (fun c3 => ?_) (fun c3 => fin (isProg_no (.inr (.inl ⟨sc, rfl, .inr (.inr ⟨bn, rfl, c3⟩)⟩))))
    obtain ⟨us, rfl⟩ := uses_dic c3
    refine ⟨p4, fun kvs e => Nat.le_of_lt (z4.1 kvs e), ?_⟩
    refine ifn (fun c4 => ?_) (fun c4 => fin (isProg_no (.inr (.inl ⟨sc, rfl, .inr (.inl c4)⟩))))
    obtain ⟨os, rfl⟩ := bnds_dic c4
    refine ⟨p5, z5.2, ?_⟩
    refine ifn (fun c5 => ?_) (fun c5 => fin (isProg_no (.inr (.inr c5))))
    have zo := z4.1 os rfl
    refine lc_map (fun x => .bl (hasKey us x)) (by unfold dkeys; rw [List.length_map]; omega) (fun y hy R hR => ?_) (any_bl _ ?_)
    · obtain ⟨k, v, hm, rfl⟩ := mem_dkeys hy
      refine ⟨k, keyOf_kD k, ?_⟩
      have e : hasKey us (kD k) = (valD us k).isSome := by unfold hasKey; rw [keyOf_kD]
      have hR : R (.bl (hasKey us (kD k))) w.mute := hR
      rw [e] at hR
      rw [Bool.false_xor]
      exact hR
    · have e : isProg (.dic sc) (.dic bn) (.dic us) (.dic os) r = !(dkeys os).any (hasKey us) := by
        unfold isProg
        dsimp only
        rw [c1, c2, c3, c4, c5]
        rfl
      rw [e] at h2
      exact h2
def sp_Program___init___x : DSp := fun ds w Q => (∃ p dx P r r2 r3, ds = [.ref p, .dic (scK P.sc), .dic (tbK P.bn), .dic (tbK P.us), .dic (tbK P.ou), r] ∧ r2 = () ∧ r3 = () ∧ WF P ∧ wordsOf r P.rs ∧ w.m p = some (.ins "Program" dx []) ∧ Q .non (w.put p (.ins "Program" dx (progF (sortP P))))) ∨
  ∃ p s b u o r, ds = [.ref p, s, b, u, o, r] ∧ Arg s ∧ Arg b ∧ Arg u ∧ Arg o ∧ Arg r ∧ isProg s b u o r = false ∧ w.rzA "InvalidProgram" none
theorem ok_Program___init___x (T : Tx K mg base tp) (F : FnMk K mg "Program" "Program.__init__" s_Program___init___x ["self", "scopes", "bindings", "uses", "outer", "reserved"]) (C_ascending : DCal P w K mg base 1 "ascending" 1 sp_ascending) (C_is_program : DCal P w K mg base 3 "is_program" 5 sp_is_program) : DMak P w K mg base 4 "Program" 6 sp_Program___init___x := by
  obtain ⟨C, f, fd, kC, hC, hM, F, b⟩ := F.ex
  refine ⟨C, f, fd, _, kC, hC, hM, dfn F sc_Program___init___x (by intro ds w Q h; rcases h with ⟨_, _, _, _, _, _, rfl, _⟩ | ⟨_, _, _, _, _, _, rfl, _⟩ <;> rfl) ?_, b, rfl⟩
  intro cdv A outer s H E hr hgd
  have hu := hu_of hr
  have nd := sc_Program___init___x.nd
  refine ⟨_, (dss_cons (ds_if (dt_not (dt_val (de_call (DCal.mono C_is_program (by decide)) hr hgd (takes_of rfl rfl rfl rfl) (da_cons (dv 1) (da_cons (dv 2) (da_cons (dv 3) (da_cons (dv 4) (da_cons (dv 5) da_nil)))))))) (dss_one (ds_raise T.x_InvalidProgram rfl (takes_of rfl rfl rfl rfl))) dss_nil)
      (dss_cons (ds_fld T.f_Program_parents (dv 0) (de_call (DCal.mono C_ascending (by decide)) hr hgd (takes_of rfl rfl rfl rfl) (da_cons (dv 1) da_nil)))
      (dss_cons (ds_fld T.f_Program_declared (dv 0) (de_call (DCal.mono C_ascending (by decide)) hr hgd (takes_of rfl rfl rfl rfl) (da_cons (dv 2) da_nil)))
      (dss_cons (ds_fld T.f_Program_targets (dv 0) (de_call (DCal.mono C_ascending (by decide)) hr hgd (takes_of rfl rfl rfl rfl) (da_cons (dv 3) da_nil)))
      (dss_cons (ds_fld T.f_Program_outside (dv 0) (de_call (DCal.mono C_ascending (by decide)) hr hgd (takes_of rfl rfl rfl rfl) (da_cons (dv 4) da_nil)))
      (dss_one (ds_fld T.f_Program_blocked (dv 0) (de_callTy cd_tuple T.b_tuple (da_cons (de_sortSet rfl hr.units T.b_sorted T.b_set (dv 5)) da_nil))))))))), ?_⟩
  intro ds w Q h
  rcases h with ⟨p, dx, P, r, _, _, rfl, _, _, wf, hw, hm, hq⟩ | ⟨p, s, b, u, o, r, rfl, hs, hb, hu2, ho, hr2, hn, hq⟩
  case inr =>
    refine ⟨hs.pl, hb.pl, hu2.pl, ho.pl, hr2.pl, hs.small, hb.small, hu2.small, ho.small, hr2.small, ?_⟩
    refine ifn (fun c => by rw [hn] at c; cases c) (fun _ => ?_)
    exact hq _
  case inl =>
    have o := wf.okProg hw
    rw [← progFs_nat wf] at hq
    obtain ⟨k1, z1⟩ := o.k1
    obtain ⟨k2, z2⟩ := o.k2
    obtain ⟨k3, z3⟩ := o.k3
    obtain ⟨k4, z4⟩ := o.k4
    have few := o.few
    have hp := o.ok
    refine ⟨o.p1, o.p2, o.p3, o.p4, o.p5, small_dic z1, small_dic z2, small_dic z3, small_dic z4, words_small hw (scan_size few), ?_⟩
    refine ifn (fun _ => ?_) (fun e => by rw [hp] at e; cases e)
    refine ⟨k1, Nat.le_of_lt z1, dx, _, hm, by decide, ?_⟩
    refine ⟨k2, Nat.le_of_lt z2, dx, _, W.put_at, Nat.lt_of_le_of_lt (putFD_le (Nat.le_refl 0)) (by decide), ?_⟩
    refine ⟨k3, Nat.le_of_lt z3, dx, _, W.put_at, Nat.lt_of_le_of_lt (putFD_le (putFD_le (Nat.le_refl 0))) (by decide), ?_⟩
    refine ⟨k4, Nat.le_of_lt z4, dx, _, W.put_at, Nat.lt_of_le_of_lt (putFD_le (putFD_le (putFD_le (Nat.le_refl 0)))) (by decide), ?_⟩
    refine ⟨P.rs, words_in hw, few, dx, _, W.put_at, Nat.lt_of_le_of_lt (putFD_le (putFD_le (putFD_le (putFD_le (Nat.le_refl 0))))) (by decide), ?_⟩
    generalize scK P.sc = sc at hq ⊢
    generalize tbK P.bn = bn at hq ⊢
    generalize tbK P.us = us at hq ⊢
    generalize tbK P.ou = os at hq ⊢
    have e : putFD "blocked" (.tup ((sortT (nubT P.rs)).map .str)) (putFD "outside" (.dic (ascD os)) (putFD "targets" (.dic (ascD us)) (putFD "declared" (.dic (ascD bn)) (putFD "parents" (.dic (ascD sc)) [])))) = progFs sc bn us os P.rs := by kernel_rfl
    rw [← e] at hq
    have five : ∀ {m1 m2 m3 m4 m5 : MO}, ((((w.put p m1).put p m2).put p m3).put p m4).put p m5 = w.put p m5 := by
      intro m1 m2 m3 m4 m5
      rw [W.put_put, W.put_put, W.put_put, W.put_put]
    rw [← five (m1 := .ins "Program" dx (putFD "parents" (.dic (ascD sc)) [])) (m2 := .ins "Program" dx (putFD "declared" (.dic (ascD bn)) (putFD "parents" (.dic (ascD sc)) [])))
      (m3 := .ins "Program" dx (putFD "targets" (.dic (ascD us)) (putFD "declared" (.dic (ascD bn)) (putFD "parents" (.dic (ascD sc)) []))))
      (m4 := .ins "Program" dx (putFD "outside" (.dic (ascD os)) (putFD "targets" (.dic (ascD us)) (putFD "declared" (.dic (ascD bn)) (putFD "parents" (.dic (ascD sc)) [])))))] at hq
    exact hq
def sp_Registry_do_create : DSp := fun ds w Q => ∃ m0 d S n r rs, ds = [.ref d, n, r, rs] ∧ RgAt m0 w.m d S ∧ plainD n = true ∧ (tyN r).isSome = true ∧ Arg rs ∧ Arg (scopesD r) ∧ S.en.length ≤ 10000 ∧ RgK w m0 d Q (createTo S n r rs)
theorem ok_Registry_do_create (T : Tx K mg base tp) (F : FnMe K "Registry" "do_create" "Registry.do_create" s_Registry_do_create ["self", "name", "root", "reserved"]) (C_Entry___init__ : DMak P w K mg base 1 "Entry" 4 sp_Entry___init__) (C_Program___init___x : DMak P w K mg base 4 "Program" 6 sp_Program___init___x) (C_check_new : DCal P w K mg base 2 "check_new" 2 sp_check_new) : DMet P w K mg base 6 "Registry" "do_create" 4 sp_Registry_do_create := by
  obtain ⟨C, f, fd, kC, hC, hM, F, b⟩ := F.ex
  refine ⟨C, f, fd, _, kC, hC, hM, dfn F sc_Registry_do_create (by intro ds w Q h; first | exact h.elim | (unfold sp_Registry_do_create at h; first | (obtain ⟨rfl, _⟩ := h; rfl) | (obtain ⟨_, rfl, _⟩ := h; rfl) | (obtain ⟨_, _, rfl, _⟩ := h; rfl) | (obtain ⟨_, _, _, rfl, _⟩ := h; rfl) | (obtain ⟨_, _, _, _, rfl, _⟩ := h; rfl) | (obtain ⟨_, _, _, _, _, rfl, _⟩ := h; rfl) | (obtain ⟨_, _, _, _, _, _, rfl, _⟩ := h; rfl) | (obtain ⟨_, _, _, _, _, _, _, rfl, _⟩ := h; rfl) | (obtain ⟨_, _, _, _, _, _, _, _, rfl, _⟩ := h; rfl) | (split at h <;> first | rfl | exact h.elim))) ?_, b, rfl⟩
  intro cdv A outer s H E hr hgd
  have hu := hu_of hr
  have nd := sc_Registry_do_create.nd
  refine ⟨_, (dss_cons (ds_expr (de_call (DCal.mono C_check_new (by decide)) hr hgd (takes_of rfl rfl rfl rfl) (da_cons (dv 1) (da_cons (de_fld T.f_Registry_entries (dv 0)) da_nil))))
      (dss_cons (ds_set (i := 4) nd (de_if (dt_val (de_callB cd_isi T.b_isinstance (da_cons (dv 2) (da_cons (de_ty (n := "str") T.b_str) da_nil)))) (de_disp finD_ok (dps_cons (dv 2) de_non dps_nil)) de_non))
      (dss_one (ds_asg (de_make (DMak.mono C_Entry___init__ (by decide)) hr hgd (takes_of rfl rfl rfl rfl) (da_cons (de_make (DMak.mono C_Program___init___x (by decide)) hr hgd (takes_of rfl rfl rfl rfl) (da_cons (dv 4) (da_cons de_dic0 (da_cons de_dic0 (da_cons de_dic0 (da_cons (dv 3) da_nil)))))) (da_cons de_dic0 (da_cons de_int da_nil)))) (dg_sub hu (de_fld T.f_Registry_entries (dv 0)) (dv 1)))))), ?_⟩
  intro ds w Q h
  obtain ⟨m0, d, S, n, r, rs, rfl, hR, hn, hr2, hrs, hsc, hl1, hq⟩ := h
  have hR' := hR
  obtain ⟨dx, e, k0, v, hm⟩ := hR'
  unfold createTo at hq
  refine ⟨dx, rgF e k0 v, .ref e, hm.hd, rfl, ?_⟩
  refine ⟨n, e, keysN S.en, rfl, hn, ⟨_, hm.he, mK_keys entD S.en⟩, ?_⟩
  cases hn2 : nameTo n (keysN S.en) with
  | some C =>
    rw [hn2] at hq
    exact fun env => hq _ _ hR
  | none =>
    rw [hn2] at hq
    obtain ⟨s, rfl, hs⟩ := nameTo_none hn2
    dsimp only at hq ⊢
    have he0 : Arg (.dic []) := Arg.of (by decide +kernel)
    refine seq_join (fun env w2 => env = [some (.ref d), some (.str s), some r, some rs, some (scopesD r)] ∧ w2 = w) ?_ fun N hN => ?_
    rotate_left
    · cases r with
      | str x => exact ⟨_, _, rfl, rfl, ⟨_, rfl, Nat.le_of_ble_eq_true rfl, disp_new (by simp) (hN _ _ ⟨rfl, rfl⟩)⟩⟩
      | non => exact ⟨_, _, rfl, rfl, hN _ _ ⟨rfl, rfl⟩⟩
      | bl _ => exact ⟨_, _, rfl, rfl, hN _ _ ⟨rfl, rfl⟩⟩
      | int _ => exact ⟨_, _, rfl, rfl, hN _ _ ⟨rfl, rfl⟩⟩
      | lst _ => exact ⟨_, _, rfl, rfl, hN _ _ ⟨rfl, rfl⟩⟩
      | tup _ => exact ⟨_, _, rfl, rfl, hN _ _ ⟨rfl, rfl⟩⟩
      | dic _ => exact ⟨_, _, rfl, rfl, hN _ _ ⟨rfl, rfl⟩⟩
      | _ => cases hr2
    rintro env w2 ⟨rfl, rfl⟩
    cases hp : newP r rs with
    | none =>
      rw [hp] at hq
      refine fun x ix hx => .inr ⟨x, scopesD r, .dic [], .dic [], .dic [], rs, rfl, hsc, he0, he0, he0, hrs, newP_none hp hrs hsc he0, fun env => hq _ _ ⟨_, e, k0, v, (hm.beside hx).1⟩⟩
    | some P =>
      rw [hp] at hq
      obtain ⟨t, ws, rfl, o, hws, rfl⟩ := newP_some hrs hp
      refine fun x ix hx => .inl ⟨x, ix, ⟨[(t, none)], [], [], [], ws⟩, rs, (), (), rfl, rfl, rfl, o, hws, W.put_at, rfl, _, W.put_at, ?_⟩
      rw [mk_st hx]
      clear hx
      refine fun y dy hy => ⟨y, dy, _, _, _, rfl, W.put_at, rfl, _, W.put_at, ?_⟩
      rw [mk_st hy]
      clear hy
      refine ⟨dx, rgF e k0 v, .ref e, hm.hd, rfl, ?_⟩
      refine Or.inr ⟨_, .inr s, hm.he, rfl, ?_, ?_⟩
      · rw [len_mK]
        exact lt_sz (by omega)
      · have h2 := hm.putE (S.en ++ [(s, ⟨sortP ⟨[(t, none)], [], [], [], ws⟩, [], 0⟩)])
        have e1 := putD_mK entD S.en s ⟨sortP ⟨[(t, none)], [], [], [], ws⟩, [], 0⟩
        rw [putN_new hs] at e1
        show Q .non { w2 with m := updM w2.m e (.dic (putD (mK entD S.en) (.inr s) (entD ⟨sortP ⟨[(t, none)], [], [], [], ws⟩, [], 0⟩))) }
        rw [e1]
        exact hq _ ⟨dx, e, k0, v, h2⟩
def sp_Registry_create (tp : Str → Addr) : DSp := fun ds w Q => ∃ m0 d S n r rs, ds = [.ref d, n, r, rs] ∧ RgAt m0 w.m d S ∧ S.ev.length ≤ 10000 ∧ m0 (tp "Registry.create") = some (lamN "Registry.create") ∧ plainD n = true ∧ (tyN r).isSome = true ∧ Arg rs ∧ Arg (scopesD r) ∧ S.en.length ≤ 10000 ∧ RgK w m0 d Q (createTo (S.log "create") n r rs).end_
theorem ok_Registry_create (T : Tx K mg base tp) (F : FnMe K "Registry" "create" "Registry.create" s_Registry_create ["self", "name", "root", "reserved"]) (C_Registry_logged : ∀ k, DLam P w K mg base k "Registry" "logged" 3 sp_Registry_logged) (C_Registry_do_create : DMet P w K mg base 6 "Registry" "do_create" 4 sp_Registry_do_create) : DMet P w K mg base 10 "Registry" "create" 4 (sp_Registry_create tp) := by
  obtain ⟨C, f, fd, kC, hC, hM, F, b⟩ := F.ex
  obtain ⟨c0, hc0, TB⟩ := T.t_Registry_create.ex _ _ kC hM.at_
  refine ⟨C, f, fd, _, kC, hC, hM, dfnC F sc_Registry_create (by intro ds w Q h; first | exact h.elim | (unfold sp_Registry_create at h; first | (obtain ⟨rfl, _⟩ := h; rfl) | (obtain ⟨_, rfl, _⟩ := h; rfl) | (obtain ⟨_, _, rfl, _⟩ := h; rfl) | (obtain ⟨_, _, _, rfl, _⟩ := h; rfl) | (obtain ⟨_, _, _, _, rfl, _⟩ := h; rfl) | (obtain ⟨_, _, _, _, _, rfl, _⟩ := h; rfl) | (obtain ⟨_, _, _, _, _, _, rfl, _⟩ := h; rfl) | (obtain ⟨_, _, _, _, _, _, _, rfl, _⟩ := h; rfl) | (obtain ⟨_, _, _, _, _, _, _, _, rfl, _⟩ := h; rfl) | (split at h <;> first | rfl | exact h.elim))) ?_, b, rfl⟩
  intro cdv hcdl A outer s H E hr hgd
  obtain rfl := hcdl c0 hc0
  have hu := hu_of hr
  have nd := sc_Registry_create.nd
  refine ⟨_, (dss_one (ds_expr (de_methL (P := tp "Registry.create") (q := "Registry.create.<locals>.<lambda>") (C_Registry_logged _) TB rfl rfl hr hgd (takes_of rfl rfl rfl rfl) (dv 0) de_str rfl (fun A outer s H E f c1 hr hgd tk => have hu := hu_of hr; (de_meth (DMet.mono C_Registry_do_create (by decide)) hr hgd tk (dv 0) (da_cons (dv 1) (da_cons (dv 2) (da_cons (dv 3) da_nil)))))))), ?_⟩
  intro ds w Q h
  obtain ⟨m0, d, S, n, r, rs, rfl, hR, hl, hT, hn, hr2, hrs, hsc, hl1, hq⟩ := h
  have hR' := hR
  obtain ⟨dx, e, k0, v, hm⟩ := hR'
  refine ⟨dx, rgF e k0 v, hm.hd, rfl, hm.keep _ _ hT, ?_⟩
  rintro fa mo hn2 ⟨o, c1, σ, rfl⟩
  refine cmd_logged "create" hR hl hn2 (R := createTo (S.log "create") n r rs) (by rw [createTo_st]; exact log_len hl) (fun w1 Q1 h1 h2 => ?_) (hq.non (createTo_non _ _ _ _))
  obtain ⟨dx1, e1, k1, v1, hm1⟩ := h1
  exact ⟨dx1, rgF e1 k1 v1, hm1.hd, rfl, _, d, _, n, r, rs, rfl, ⟨dx1, e1, k1, v1, hm1⟩, hn, hr2, hrs, hsc, hl1, h2.inn _⟩
def errs59 : List (Str × Str) := [("DuplicateName", "duplicate"), ("InvalidProgram", "program"), ("InvalidWord", "word"), ("UnknownMark", "mark"), ("UnknownName", "unknown")]
def sp__law_error : DSp := fun ds w Q => ∃ C t, ds = [.exc C []] ∧ (C, t) ∈ errs59 ∧ Q (.str t) w
theorem ok__law_error (T : Tx K mg base tp) (F : FnAt K mg "_law_error" s__law_error ["_law_caught"])  : DCal P w K mg base 1 "_law_error" 1 sp__law_error := by
  obtain ⟨f, fd, F, hm, b⟩ := F.ex
  refine ⟨f, fd, _, dfn F sc__law_error (by intro ds w Q h; first | exact h.elim | (unfold sp__law_error at h; first | (obtain ⟨rfl, _⟩ := h; rfl) | (obtain ⟨_, rfl, _⟩ := h; rfl) | (obtain ⟨_, _, rfl, _⟩ := h; rfl) | (obtain ⟨_, _, _, rfl, _⟩ := h; rfl) | (obtain ⟨_, _, _, _, rfl, _⟩ := h; rfl) | (obtain ⟨_, _, _, _, _, rfl, _⟩ := h; rfl) | (obtain ⟨_, _, _, _, _, _, rfl, _⟩ := h; rfl) | (obtain ⟨_, _, _, _, _, _, _, rfl, _⟩ := h; rfl) | (obtain ⟨_, _, _, _, _, _, _, _, rfl, _⟩ := h; rfl) | (split at h <;> first | rfl | exact h.elim))) ?_, hm, F.kp, b, rfl⟩
  intro cdv A outer s H E hr hgd
  have hu := hu_of hr
  have nd := sc__law_error.nd
  refine ⟨_, (dss_cons (ds_set (i := 1) nd (de_lst (da_cons (de_eis T.e_DuplicateName T.b_isinstance (dv 0)) (da_cons (de_eis T.e_InvalidCommand T.b_isinstance (dv 0)) (da_cons (de_eis T.e_InvalidKept T.b_isinstance (dv 0)) da_nil)))))
      (dss_cons (ds_set (i := 1) nd (de_op od_add (dv 1) (de_lst (da_cons (de_eis T.e_InvalidPrices T.b_isinstance (dv 0)) (da_cons (de_eis T.e_InvalidProgram T.b_isinstance (dv 0)) da_nil)))))
      (dss_cons (ds_set (i := 1) nd (de_op od_add (dv 1) (de_lst (da_cons (de_eis T.e_InvalidWord T.b_isinstance (dv 0)) (da_cons (de_eis T.e_UnknownMark T.b_isinstance (dv 0)) (da_cons (de_eis T.e_UnknownName T.b_isinstance (dv 0)) da_nil))))))
      (dss_cons (ds_if (dt_w (dw_and (dt_val (de_eis T.e_InvalidEdit T.b_isinstance (dv 0))) (dw_and1 (dt_cmp (od_eq hr.units) (de_bm PySem.F.slot_list_count PySem.F.type_list_count (md_count (Nat.lt_of_le_of_lt (Nat.add_le_add (Nat.le_add_right _ _) (by decide)) hr.un)) (dv 1) (da_cons de_bl da_nil)) de_int)))) (dss_one (ds_ret (de_op od_add de_str (de_callB (cd_repr hgd hr.units) T.b_repr (da_cons (de_exf T.g_InvalidEdit_index (dv 0)) da_nil))))) dss_nil)
      (dss_cons (ds_if (dt_w (dw_and (dt_val (de_eis T.e_NoRenaming T.b_isinstance (dv 0))) (dw_and1 (dt_cmp (od_eq hr.units) (de_bm PySem.F.slot_list_count PySem.F.type_list_count (md_count (Nat.lt_of_le_of_lt (Nat.add_le_add (Nat.le_add_right _ _) (by decide)) hr.un)) (dv 1) (da_cons de_bl da_nil)) de_int)))) (dss_one (ds_ret (de_op od_add de_str (de_callB (cd_repr hgd hr.units) T.b_repr (da_cons (de_exf T.g_NoRenaming_obstacle (dv 0)) da_nil))))) dss_nil)
      (dss_cons (ds_if (dt_w (dw_or (dt_cmp (od_ne hr.units) (de_bm PySem.F.slot_list_count PySem.F.type_list_count (md_count (Nat.lt_of_le_of_lt (Nat.add_le_add (Nat.le_add_right _ _) (by decide)) hr.un)) (dv 1) (da_cons de_bl da_nil)) de_int) (dw_or1 (dt_not (dt_val (de_callB (cd_eisY T.y_ValueError) T.b_isinstance (da_cons (dv 0) (da_cons (de_ty (n := "ValueError") T.b_ValueError) da_nil)))))))) (dss_one (ds_ret de_str)) dss_nil)
      (dss_cons (ds_set (i := 2) nd (de_lst (da_cons de_str (da_cons de_str (da_cons de_str (da_cons de_str (da_cons de_str (da_cons de_str (da_cons de_str (da_cons de_str da_nil))))))))))
      (dss_one (ds_ret (de_sub hu (dv 2) (de_bm PySem.F.slot_list_index PySem.F.type_list_index md_index (dv 1) (da_cons de_bl da_nil)))))))))))), ?_⟩
  intro ds w Q h
  obtain ⟨C, t, rfl, hC, hq⟩ := h
  simp only [errs59, List.mem_cons, Prod.mk.injEq, List.not_mem_nil, or_false] at hC
  rcases hC with ⟨rfl, rfl⟩ | ⟨rfl, rfl⟩ | ⟨rfl, rfl⟩ | ⟨rfl, rfl⟩ | ⟨rfl, rfl⟩
  · refine ⟨_, rfl, _, rfl, _, rfl, sz_nat 3, ?_⟩
    refine ⟨_, rfl, _, rfl, sz_nat 2, sz_nat 5, ?_⟩
    refine ⟨_, rfl, _, rfl, _, rfl, sz_nat 3, sz_nat 8, ?_⟩
    refine ⟨_, rfl, ?_⟩
    refine ⟨_, rfl, ?_⟩
    refine ⟨trivial, _, _, rfl, rfl, by decide, by decide, ?_⟩
    refine ⟨rfl, _, rfl, ?_⟩
    refine ⟨sz_nat 8, trivial, rfl, 0, .bl true, rfl, rfl, fun m z hm hz => ?_, ?_⟩
    · have hm : m < 0 := hm
      omega
    · exact ⟨_, rfl, hq⟩
  · refine ⟨_, rfl, _, rfl, _, rfl, sz_nat 3, ?_⟩
    refine ⟨_, rfl, _, rfl, sz_nat 2, sz_nat 5, ?_⟩
    refine ⟨_, rfl, _, rfl, _, rfl, sz_nat 3, sz_nat 8, ?_⟩
    refine ⟨_, rfl, ?_⟩
    refine ⟨_, rfl, ?_⟩
    refine ⟨trivial, _, _, rfl, rfl, by decide, by decide, ?_⟩
    refine ⟨rfl, _, rfl, ?_⟩
    refine ⟨sz_nat 8, trivial, rfl, 4, .bl true, rfl, rfl, fun m z hm hz => ?_, ?_⟩
    · have hm : m < 4 := hm
      have : m = 0 ∨ m = 1 ∨ m = 2 ∨ m = 3 := by omega
      rcases this with rfl | rfl | rfl | rfl <;> (cases hz; rfl)
    · exact ⟨_, rfl, hq⟩
  · refine ⟨_, rfl, _, rfl, _, rfl, sz_nat 3, ?_⟩
    refine ⟨_, rfl, _, rfl, sz_nat 2, sz_nat 5, ?_⟩
    refine ⟨_, rfl, _, rfl, _, rfl, sz_nat 3, sz_nat 8, ?_⟩
    refine ⟨_, rfl, ?_⟩
    refine ⟨_, rfl, ?_⟩
    refine ⟨trivial, _, _, rfl, rfl, by decide, by decide, ?_⟩
    refine ⟨rfl, _, rfl, ?_⟩
    refine ⟨sz_nat 8, trivial, rfl, 5, .bl true, rfl, rfl, fun m z hm hz => ?_, ?_⟩
    · have hm : m < 5 := hm
      have : m = 0 ∨ m = 1 ∨ m = 2 ∨ m = 3 ∨ m = 4 := by omega
      rcases this with rfl | rfl | rfl | rfl | rfl <;> (cases hz; rfl)
    · exact ⟨_, rfl, hq⟩
  · refine ⟨_, rfl, _, rfl, _, rfl, sz_nat 3, ?_⟩
    refine ⟨_, rfl, _, rfl, sz_nat 2, sz_nat 5, ?_⟩
    refine ⟨_, rfl, _, rfl, _, rfl, sz_nat 3, sz_nat 8, ?_⟩
    refine ⟨_, rfl, ?_⟩
    refine ⟨_, rfl, ?_⟩
    refine ⟨trivial, _, _, rfl, rfl, by decide, by decide, ?_⟩
    refine ⟨rfl, _, rfl, ?_⟩
    refine ⟨sz_nat 8, trivial, rfl, 6, .bl true, rfl, rfl, fun m z hm hz => ?_, ?_⟩
    · have hm : m < 6 := hm
      have : m = 0 ∨ m = 1 ∨ m = 2 ∨ m = 3 ∨ m = 4 ∨ m = 5 := by omega
      rcases this with rfl | rfl | rfl | rfl | rfl | rfl <;> (cases hz; rfl)
    · exact ⟨_, rfl, hq⟩
  · refine ⟨_, rfl, _, rfl, _, rfl, sz_nat 3, ?_⟩
    refine ⟨_, rfl, _, rfl, sz_nat 2, sz_nat 5, ?_⟩
    refine ⟨_, rfl, _, rfl, _, rfl, sz_nat 3, sz_nat 8, ?_⟩
    refine ⟨_, rfl, ?_⟩
    refine ⟨_, rfl, ?_⟩
    refine ⟨trivial, _, _, rfl, rfl, by decide, by decide, ?_⟩
    refine ⟨rfl, _, rfl, ?_⟩
    refine ⟨sz_nat 8, trivial, rfl, 7, .bl true, rfl, rfl, fun m z hm hz => ?_, ?_⟩
    · have hm : m < 7 := hm
      have : m = 0 ∨ m = 1 ∨ m = 2 ∨ m = 3 ∨ m = 4 ∨ m = 5 ∨ m = 6 := by omega
      rcases this with rfl | rfl | rfl | rfl | rfl | rfl | rfl <;> (cases hz; rfl)
    · exact ⟨_, rfl, hq⟩
def sp_Registry_find : DSp := fun ds w Q => ∃ x S n, ds = [x, n] ∧ RgIs w x S ∧ (tyN n).isSome = true ∧ (hasN n (keysN S.en) = false → w.rzA "UnknownName" none) ∧ ∀ s e, n = .str s → lk S.en s = some e → Q (entD e) w
theorem ok_Registry_find (T : Tx K mg base tp) (F : FnMe K "Registry" "find" "Registry.find" s_Registry_find ["self", "name"])  : DMet P w K mg base 1 "Registry" "find" 2 sp_Registry_find := by
  obtain ⟨C, f, fd, kC, hC, hM, F, b⟩ := F.ex
  refine ⟨C, f, fd, _, kC, hC, hM, dfn F sc_Registry_find (by intro ds w Q h; first | exact h.elim | (unfold sp_Registry_find at h; first | (obtain ⟨rfl, _⟩ := h; rfl) | (obtain ⟨_, rfl, _⟩ := h; rfl) | (obtain ⟨_, _, rfl, _⟩ := h; rfl) | (obtain ⟨_, _, _, rfl, _⟩ := h; rfl) | (obtain ⟨_, _, _, _, rfl, _⟩ := h; rfl) | (obtain ⟨_, _, _, _, _, rfl, _⟩ := h; rfl) | (obtain ⟨_, _, _, _, _, _, rfl, _⟩ := h; rfl) | (obtain ⟨_, _, _, _, _, _, _, rfl, _⟩ := h; rfl) | (obtain ⟨_, _, _, _, _, _, _, _, rfl, _⟩ := h; rfl) | (split at h <;> first | rfl | exact h.elim))) ?_, b, rfl⟩
  intro cdv A outer s H E hr hgd
  have hu := hu_of hr
  have nd := sc_Registry_find.nd
  refine ⟨_, (dss_cons (ds_if (dt_w (dw_or (dt_not (dt_val (de_callB cd_isi T.b_isinstance (da_cons (dv 1) (da_cons (de_ty (n := "str") T.b_str) da_nil))))) (dw_or1 (dt_cmp (od_notin hu) (dv 1) (de_fld T.f_Registry_entries (dv 0)))))) (dss_one (ds_raise T.x_UnknownName rfl (takes_of rfl rfl rfl rfl))) dss_nil)
      (dss_one (ds_ret (de_sub hu (de_fld T.f_Registry_entries (dv 0)) (dv 1))))), ?_⟩
  intro ds w Q h
  obtain ⟨x, S, n, rfl, hR, hn, h1, h2⟩ := h
  have lkv : ∀ s, valD (mK entD S.en) (.inr s) = (lk S.en s).map entD := fun s => valD_mK entD S.en s
  rcases hR with ⟨m0, d, rfl, dx, e, k0, v, hm⟩ | rfl
  · cases n with
    | str s =>
      have h1 : decide (s ∈ keysN S.en) = false → w.rzA "UnknownName" none := h1
      refine ⟨_, _, rfl, rfl, ?_⟩
      refine ⟨dx, rgF e k0 v, .ref e, hm.hd, rfl, .inr ⟨_, .inr s, hm.he, rfl, ?_⟩⟩
      rw [lkv]
      cases hl : lk S.en s with
      | none => exact h1 (decide_eq_false fun z => by obtain ⟨a, ha⟩ := lk_some z; rw [hl] at ha; cases ha) _
      | some a =>
        refine ⟨dx, rgF e k0 v, .ref e, hm.hd, rfl, .inr ⟨_, .inr s, entD a, hm.he, rfl, ?_, h2 s a rfl hl⟩⟩
        rw [lkv, hl]
        rfl
    | non => exact ⟨_, _, rfl, rfl, h1 rfl _⟩
    | bl _ => exact ⟨_, _, rfl, rfl, h1 rfl _⟩
    | int _ => exact ⟨_, _, rfl, rfl, h1 rfl _⟩
    | lst _ => exact ⟨_, _, rfl, rfl, h1 rfl _⟩
    | tup _ => exact ⟨_, _, rfl, rfl, h1 rfl _⟩
    | dic _ => exact ⟨_, _, rfl, rfl, h1 rfl _⟩
    | _ => cases hn
  · cases n with
    | str s =>
      have h1 : decide (s ∈ keysN S.en) = false → w.rzA "UnknownName" none := h1
      refine ⟨_, _, rfl, rfl, ?_⟩
      refine ⟨rfl, bkD S.en, rfl, .inr s, rfl, ?_⟩
      rw [lkv]
      cases hl : lk S.en s with
      | none => exact h1 (decide_eq_false fun z => by obtain ⟨a, ha⟩ := lk_some z; rw [hl] at ha; cases ha) _
      | some a =>
        refine ⟨rfl, bkD S.en, rfl, .inr s, entD a, rfl, ?_, h2 s a rfl hl⟩
        rw [lkv, hl]
        rfl
    | non => exact ⟨_, _, rfl, rfl, h1 rfl _⟩
    | bl _ => exact ⟨_, _, rfl, rfl, h1 rfl _⟩
    | int _ => exact ⟨_, _, rfl, rfl, h1 rfl _⟩
    | lst _ => exact ⟨_, _, rfl, rfl, h1 rfl _⟩
    | tup _ => exact ⟨_, _, rfl, rfl, h1 rfl _⟩
    | dic _ => exact ⟨_, _, rfl, rfl, h1 rfl _⟩
    | _ => cases hn
def sp_Registry_do_remove : DSp := fun ds w Q => ∃ m0 d S n, ds = [.ref d, n] ∧ RgAt m0 w.m d S ∧ (tyN n).isSome = true ∧ (keysN S.en).Nodup ∧ RgK w m0 d Q (removeTo S n)
theorem ok_Registry_do_remove (T : Tx K mg base tp) (F : FnMe K "Registry" "do_remove" "Registry.do_remove" s_Registry_do_remove ["self", "name"]) (C_Registry_find : DMet P w K mg base 1 "Registry" "find" 2 sp_Registry_find) : DMet P w K mg base 2 "Registry" "do_remove" 2 sp_Registry_do_remove := by
  obtain ⟨C, f, fd, kC, hC, hM, F, b⟩ := F.ex
  refine ⟨C, f, fd, _, kC, hC, hM, dfn F sc_Registry_do_remove (by intro ds w Q h; first | exact h.elim | (unfold sp_Registry_do_remove at h; first | (obtain ⟨rfl, _⟩ := h; rfl) | (obtain ⟨_, rfl, _⟩ := h; rfl) | (obtain ⟨_, _, rfl, _⟩ := h; rfl) | (obtain ⟨_, _, _, rfl, _⟩ := h; rfl) | (obtain ⟨_, _, _, _, rfl, _⟩ := h; rfl) | (obtain ⟨_, _, _, _, _, rfl, _⟩ := h; rfl) | (obtain ⟨_, _, _, _, _, _, rfl, _⟩ := h; rfl) | (obtain ⟨_, _, _, _, _, _, _, rfl, _⟩ := h; rfl) | (obtain ⟨_, _, _, _, _, _, _, _, rfl, _⟩ := h; rfl) | (split at h <;> first | rfl | exact h.elim))) ?_, b, rfl⟩
  intro cdv A outer s H E hr hgd
  have hu := hu_of hr
  have nd := sc_Registry_do_remove.nd
  refine ⟨_, (dss_cons (ds_expr (de_meth (DMet.mono C_Registry_find (by decide)) hr hgd (takes_of rfl rfl rfl rfl) (dv 0) (da_cons (dv 1) da_nil)))
      (dss_one (ds_expr (de_dpop1 (de_fld T.f_Registry_entries (dv 0)) (dv 1))))), ?_⟩
  intro ds w Q h
  obtain ⟨m0, d, S, n, rfl, hR, hn, nd, hq⟩ := h
  have hR' := hR
  obtain ⟨dx, e, k0, v, hm⟩ := hR'
  unfold removeTo at hq
  refine ⟨dx, rgF e k0 v, hm.hd, rfl, ?_⟩
  refine ⟨_, S, n, rfl, .inl ⟨m0, d, rfl, hR⟩, hn, fun hf => ?_, fun s a hs ha => ?_⟩
  · rw [hf, if_neg (by decide)] at hq
    exact fun env => hq _ _ hR
  subst hs
  have hk : hasN (.str s) (keysN S.en) = true := decide_eq_true (lk_key ha)
  rw [hk, if_pos rfl] at hq
  dsimp only
  refine ⟨dx, rgF e k0 v, .ref e, hm.hd, rfl, ⟨_, hm.he⟩, ?_⟩
  refine ⟨_, .inr s, entD a, hm.he, rfl, by rw [valD_mK, ha]; rfl, ?_⟩
  rw [drop_mK]
  exact hq _ ⟨dx, e, k0, v, hm.putE (outT S.en s)⟩
def sp_Registry_remove (tp : Str → Addr) : DSp := fun ds w Q => ∃ m0 d S n, ds = [.ref d, n] ∧ RgAt m0 w.m d S ∧ S.ev.length ≤ 10000 ∧ m0 (tp "Registry.remove") = some (lamN "Registry.remove") ∧ (tyN n).isSome = true ∧ (keysN S.en).Nodup ∧ RgK w m0 d Q (removeTo (S.log "remove") n).end_
theorem ok_Registry_remove (T : Tx K mg base tp) (F : FnMe K "Registry" "remove" "Registry.remove" s_Registry_remove ["self", "name"]) (C_Registry_logged : ∀ k, DLam P w K mg base k "Registry" "logged" 3 sp_Registry_logged) (C_Registry_do_remove : DMet P w K mg base 2 "Registry" "do_remove" 2 sp_Registry_do_remove) : DMet P w K mg base 6 "Registry" "remove" 2 (sp_Registry_remove tp) := by
  obtain ⟨C, f, fd, kC, hC, hM, F, b⟩ := F.ex
  obtain ⟨c0, hc0, TB⟩ := T.t_Registry_remove.ex _ _ kC hM.at_
  refine ⟨C, f, fd, _, kC, hC, hM, dfnC F sc_Registry_remove (by intro ds w Q h; first | exact h.elim | (unfold sp_Registry_remove at h; first | (obtain ⟨rfl, _⟩ := h; rfl) | (obtain ⟨_, rfl, _⟩ := h; rfl) | (obtain ⟨_, _, rfl, _⟩ := h; rfl) | (obtain ⟨_, _, _, rfl, _⟩ := h; rfl) | (obtain ⟨_, _, _, _, rfl, _⟩ := h; rfl) | (obtain ⟨_, _, _, _, _, rfl, _⟩ := h; rfl) | (obtain ⟨_, _, _, _, _, _, rfl, _⟩ := h; rfl) | (obtain ⟨_, _, _, _, _, _, _, rfl, _⟩ := h; rfl) | (obtain ⟨_, _, _, _, _, _, _, _, rfl, _⟩ := h; rfl) | (split at h <;> first | rfl | exact h.elim))) ?_, b, rfl⟩
  intro cdv hcdl A outer s H E hr hgd
  obtain rfl := hcdl c0 hc0
  have hu := hu_of hr
  have nd := sc_Registry_remove.nd
  refine ⟨_, (dss_one (ds_expr (de_methL (P := tp "Registry.remove") (q := "Registry.remove.<locals>.<lambda>") (C_Registry_logged _) TB rfl rfl hr hgd (takes_of rfl rfl rfl rfl) (dv 0) de_str rfl (fun A outer s H E f c1 hr hgd tk => have hu := hu_of hr; (de_meth (DMet.mono C_Registry_do_remove (by decide)) hr hgd tk (dv 0) (da_cons (dv 1) da_nil)))))), ?_⟩
  intro ds w Q h
  obtain ⟨m0, d, S, n, rfl, hR, hl, hT, hn, nd, hq⟩ := h
  have hR' := hR
  obtain ⟨dx, e, k0, v, hm⟩ := hR'
  refine ⟨dx, rgF e k0 v, hm.hd, rfl, hm.keep _ _ hT, ?_⟩
  rintro fa mo hn2 ⟨o, c1, σ, rfl⟩
  refine cmd_logged "remove" hR hl hn2 (R := removeTo (S.log "remove") n) (by rw [removeTo_st]; exact log_len hl) (fun w1 Q1 h1 h2 => ?_) (hq.non (removeTo_non _ _))
  obtain ⟨dx1, e1, k1, v1, hm1⟩ := h1
  exact ⟨dx1, rgF e1 k1 v1, hm1.hd, rfl, _, d, _, n, rfl, ⟨dx1, e1, k1, v1, hm1⟩, hn, nd, h2.inn _⟩
def sp__law_outcome (tp : Str → Addr) : DSp := fun ds w Q => ∃ m0 d S cmd, ds = [.ref d, cmdD cmd] ∧ RgAt m0 w.m d S ∧ Rg59 S ∧ CmdOk cmd ∧ S.en.length ≤ 9999 ∧ S.ev.length ≤ 10000 ∧ m0 (tp "Registry.create") = some (lamN "Registry.create") ∧ m0 (tp "Registry.remove") = some (lamN "Registry.remove") ∧
  ∀ m1, RgAt m0 m1 d (cmdTo (S.log (cmdN cmd)) cmd).end_.st → Q (.tup [.str (errT (cmdTo (S.log (cmdN cmd)) cmd)), .non]) { w with m := m1 }
theorem ok__law_outcome (T : Tx K mg base tp) (F : FnAt K mg "_law_outcome" s__law_outcome ["_law_store", "_law_command_here"]) (C__law_error : DCal P w K mg base 1 "_law_error" 1 sp__law_error) (C_Registry_create : DMet P w K mg base 10 "Registry" "create" 4 (sp_Registry_create tp)) (C_Registry_remove : DMet P w K mg base 6 "Registry" "remove" 2 (sp_Registry_remove tp)) : DCal P w K mg base 11 "_law_outcome" 2 (sp__law_outcome tp) := by
  obtain ⟨f, fd, F, hm, b⟩ := F.ex
  refine ⟨f, fd, _, dfn F sc__law_outcome (by intro ds w Q h; first | exact h.elim | (unfold sp__law_outcome at h; first | (obtain ⟨rfl, _⟩ := h; rfl) | (obtain ⟨_, rfl, _⟩ := h; rfl) | (obtain ⟨_, _, rfl, _⟩ := h; rfl) | (obtain ⟨_, _, _, rfl, _⟩ := h; rfl) | (obtain ⟨_, _, _, _, rfl, _⟩ := h; rfl) | (obtain ⟨_, _, _, _, _, rfl, _⟩ := h; rfl) | (obtain ⟨_, _, _, _, _, _, rfl, _⟩ := h; rfl) | (obtain ⟨_, _, _, _, _, _, _, rfl, _⟩ := h; rfl) | (obtain ⟨_, _, _, _, _, _, _, _, rfl, _⟩ := h; rfl) | (split at h <;> first | rfl | exact h.elim))) ?_, hm, F.kp, b, rfl⟩
  intro cdv A outer s H E hr hgd
  have hu := hu_of hr
  have nd := sc__law_outcome.nd
  refine ⟨_, (dss_cons (ds_set (i := 2) nd de_non)
      (dss_cons (ds_set (i := 3) nd de_non)
      (dss_cons (ds_try (i := 4) T.k_ScopeError nd rfl rfl rfl (fun _ _ _ tk => (dss_one (ds_if (dt_cmp (od_eq hr.units) (de_sub hu (dv 1) de_int) de_str) (dss_one (ds_set (i := 3) nd (de_meth (DMet.mono C_Registry_create (by decide)) hr hgd tk (dv 0) (da_cons (de_sub hu (dv 1) de_int) (da_cons (de_sub hu (dv 1) de_int) (da_cons (de_sub hu (dv 1) de_int) da_nil)))))) (dss_one (ds_set (i := 3) nd (de_meth (DMet.mono C_Registry_remove (by decide)) hr hgd tk (dv 0) (da_cons (de_sub hu (dv 1) de_int) da_nil))))))) (fun _ _ => (dss_one (ds_set (i := 2) nd (dv 4)))))
      (dss_one (ds_ret (de_if (dt_cmp od_is (dv 2) de_non) (de_tup (da_cons de_str (da_cons (dv 3) da_nil))) (de_tup (da_cons (de_call (DCal.mono C__law_error (by decide)) hr hgd (takes_of rfl rfl rfl rfl) (da_cons (dv 2) da_nil)) (da_cons de_non da_nil))))))))), ?_⟩
  intro ds w Q h
  obtain ⟨m0, d, S, cmd, rfl, hR, g, hc, hl, hl2, hT1, hT2, hq⟩ := h
  have hR' := hR
  obtain ⟨dx, e, k0, v, hm⟩ := hR'
  cases cmd with
  | create n r rs =>
    obtain ⟨hn, hr2, hrs⟩ := hc
    refine ⟨_, rfl, ?_⟩
    refine ⟨dx, rgF e k0 v, hm.hd, rfl, _, rfl, _, rfl, _, rfl, ?_⟩
    refine ⟨m0, d, S, n, r, rs, rfl, hR, hl2, hT1, pl_plain hn.ar.pl, hr2.ty, hrs.ar, hr2.sc, by omega, ?_⟩
    have hq : ∀ m1, RgAt m0 m1 d (cmdTo (S.log "create") (.create n r rs)).end_.st → Q (.tup [.str (errT (cmdTo (S.log "create") (.create n r rs))), .non]) { w with m := m1 } := hq
    cases hRR : cmdTo (S.log "create") (.create n r rs) with
    | err C fs S2 =>
      rw [hRR] at hq
      obtain ⟨rfl, hC⟩ := cmdTo_err hRR
      have hRR : createTo (S.log "create") n r rs = .err C none S2 := hRR
      rw [hRR]
      intro env m1 h1
      have hq := hq m1 h1
      rcases hC with rfl | rfl | rfl | rfl
      · exact ⟨by decide, rfl, "InvalidWord", "word", rfl, by simp [errs59], sz_nat 2, hq⟩
      · exact ⟨by decide, rfl, "DuplicateName", "duplicate", rfl, by simp [errs59], sz_nat 2, hq⟩
      · exact ⟨by decide, rfl, "InvalidProgram", "program", rfl, by simp [errs59], sz_nat 2, hq⟩
      · exact ⟨by decide, rfl, "UnknownName", "unknown", rfl, by simp [errs59], sz_nat 2, hq⟩
    | ok r2 S2 =>
      rw [hRR] at hq
      obtain rfl := cmdTo_non hRR
      have hRR : createTo (S.log "create") n r rs = .ok .non S2 := hRR
      rw [hRR]
      intro m1 h1
      have hq := hq m1 h1
      exact ⟨sz_nat 2, hq⟩
  | remove n =>
    have hc : Odd n := hc
    refine ⟨_, rfl, ?_⟩
    refine ⟨dx, rgF e k0 v, hm.hd, rfl, _, rfl, ?_⟩
    refine ⟨m0, d, S, n, rfl, hR, hl2, hT2, hc.ty, g.nd, ?_⟩
    have hq : ∀ m1, RgAt m0 m1 d (cmdTo (S.log "remove") (.remove n)).end_.st → Q (.tup [.str (errT (cmdTo (S.log "remove") (.remove n))), .non]) { w with m := m1 } := hq
    cases hRR : cmdTo (S.log "remove") (.remove n) with
    | err C fs S2 =>
      rw [hRR] at hq
      obtain ⟨rfl, hC⟩ := cmdTo_err hRR
      have hRR : removeTo (S.log "remove") n = .err C none S2 := hRR
      rw [hRR]
      intro env m1 h1
      have hq := hq m1 h1
      rcases hC with rfl | rfl | rfl | rfl
      · exact ⟨by decide, rfl, "InvalidWord", "word", rfl, by simp [errs59], sz_nat 2, hq⟩
      · exact ⟨by decide, rfl, "DuplicateName", "duplicate", rfl, by simp [errs59], sz_nat 2, hq⟩
      · exact ⟨by decide, rfl, "InvalidProgram", "program", rfl, by simp [errs59], sz_nat 2, hq⟩
      · exact ⟨by decide, rfl, "UnknownName", "unknown", rfl, by simp [errs59], sz_nat 2, hq⟩
    | ok r2 S2 =>
      rw [hRR] at hq
      obtain rfl := cmdTo_non hRR
      have hRR : removeTo (S.log "remove") n = .ok .non S2 := hRR
      rw [hRR]
      intro m1 h1
      have hq := hq m1 h1
      exact ⟨sz_nat 2, hq⟩
def sp_Registry_get_log_m : DSp := fun ds w Q => ∃ m0 d S, ds = [.ref d] ∧ RgAt m0 w.m d S ∧ ∀ p, w.m p = none → Q (.ref p) (w.put p (.lst (S.ev.map .str)))
theorem ok_Registry_get_log_m (T : Tx K mg base tp) (F : FnMe K "Registry" "get_log" "Registry.get_log" s_Registry_get_log_m ["self"])  : DMet P w K mg base 1 "Registry" "get_log" 1 sp_Registry_get_log_m := by
  obtain ⟨C, f, fd, kC, hC, hM, F, b⟩ := F.ex
  refine ⟨C, f, fd, _, kC, hC, hM, dfn F sc_Registry_get_log_m (by intro ds w Q h; first | exact h.elim | (unfold sp_Registry_get_log_m at h; first | (obtain ⟨rfl, _⟩ := h; rfl) | (obtain ⟨_, rfl, _⟩ := h; rfl) | (obtain ⟨_, _, rfl, _⟩ := h; rfl) | (obtain ⟨_, _, _, rfl, _⟩ := h; rfl) | (obtain ⟨_, _, _, _, rfl, _⟩ := h; rfl) | (obtain ⟨_, _, _, _, _, rfl, _⟩ := h; rfl) | (obtain ⟨_, _, _, _, _, _, rfl, _⟩ := h; rfl) | (obtain ⟨_, _, _, _, _, _, _, rfl, _⟩ := h; rfl) | (obtain ⟨_, _, _, _, _, _, _, _, rfl, _⟩ := h; rfl) | (split at h <;> first | rfl | exact h.elim))) ?_, b, rfl⟩
  intro cdv A outer s H E hr hgd
  have hu := hu_of hr
  have nd := sc_Registry_get_log_m.nd
  refine ⟨_, (dss_one (ds_ret (de_callTy (cd_listMC rfl) T.b_list (da_cons (de_fld T.f_Registry_events (dv 0)) da_nil)))), ?_⟩
  intro ds w Q h
  obtain ⟨m0, d, S, rfl, ⟨dx, e, k0, v, hm⟩, hq⟩ := h
  refine ⟨dx, rgF e k0 v, .ref v, hm.hd, rfl, ?_⟩
  exact ⟨_, hm.hv, hq⟩
def sp_Registry_get_names_m : DSp := fun ds w Q => ∃ m0 d S, ds = [.ref d] ∧ RgAt m0 w.m d S ∧ ∀ p, w.m p = none → Q (.ref p) (w.put p (.lst ((sortT (keysN S.en)).map .str)))
theorem ok_Registry_get_names_m (T : Tx K mg base tp) (F : FnMe K "Registry" "get_names" "Registry.get_names" s_Registry_get_names_m ["self"])  : DMet P w K mg base 1 "Registry" "get_names" 1 sp_Registry_get_names_m := by
  obtain ⟨C, f, fd, kC, hC, hM, F, b⟩ := F.ex
  refine ⟨C, f, fd, _, kC, hC, hM, dfn F sc_Registry_get_names_m (by intro ds w Q h; first | exact h.elim | (unfold sp_Registry_get_names_m at h; first | (obtain ⟨rfl, _⟩ := h; rfl) | (obtain ⟨_, rfl, _⟩ := h; rfl) | (obtain ⟨_, _, rfl, _⟩ := h; rfl) | (obtain ⟨_, _, _, rfl, _⟩ := h; rfl) | (obtain ⟨_, _, _, _, rfl, _⟩ := h; rfl) | (obtain ⟨_, _, _, _, _, rfl, _⟩ := h; rfl) | (obtain ⟨_, _, _, _, _, _, rfl, _⟩ := h; rfl) | (obtain ⟨_, _, _, _, _, _, _, rfl, _⟩ := h; rfl) | (obtain ⟨_, _, _, _, _, _, _, _, rfl, _⟩ := h; rfl) | (split at h <;> first | rfl | exact h.elim))) ?_, b, rfl⟩
  intro cdv A outer s H E hr hgd
  have hu := hu_of hr
  have nd := sc_Registry_get_names_m.nd
  refine ⟨_, (dss_one (ds_ret (de_callB (cd_sortedM rfl hr.units) T.b_sorted (da_cons (de_fld T.f_Registry_entries (dv 0)) da_nil)))), ?_⟩
  intro ds w Q h
  obtain ⟨m0, d, S, rfl, ⟨dx, e, k0, v, hm⟩, hq⟩ := h
  refine ⟨dx, rgF e k0 v, .ref e, hm.hd, rfl, ?_⟩
  exact ⟨_, keysN S.en, hm.he, mK_keys entD S.en, hq⟩
def sp_Registry_get_spent : DSp := fun ds w Q => ∃ x S n, ds = [x, n] ∧ RgIs w x S ∧ (tyN n).isSome = true ∧ (hasN n (keysN S.en) = false → w.rzA "UnknownName" none) ∧ ∀ s a, n = .str s → lk S.en s = some a → Q (.int a.a) w
theorem ok_Registry_get_spent (T : Tx K mg base tp) (F : FnMe K "Registry" "get_spent" "Registry.get_spent" s_Registry_get_spent ["self", "name"]) (C_Registry_find : DMet P w K mg base 1 "Registry" "find" 2 sp_Registry_find) : DMet P w K mg base 2 "Registry" "get_spent" 2 sp_Registry_get_spent := by
  obtain ⟨C, f, fd, kC, hC, hM, F, b⟩ := F.ex
  refine ⟨C, f, fd, _, kC, hC, hM, dfn F sc_Registry_get_spent (by intro ds w Q h; first | exact h.elim | (unfold sp_Registry_get_spent at h; first | (obtain ⟨rfl, _⟩ := h; rfl) | (obtain ⟨_, rfl, _⟩ := h; rfl) | (obtain ⟨_, _, rfl, _⟩ := h; rfl) | (obtain ⟨_, _, _, rfl, _⟩ := h; rfl) | (obtain ⟨_, _, _, _, rfl, _⟩ := h; rfl) | (obtain ⟨_, _, _, _, _, rfl, _⟩ := h; rfl) | (obtain ⟨_, _, _, _, _, _, rfl, _⟩ := h; rfl) | (obtain ⟨_, _, _, _, _, _, _, rfl, _⟩ := h; rfl) | (obtain ⟨_, _, _, _, _, _, _, _, rfl, _⟩ := h; rfl) | (split at h <;> first | rfl | exact h.elim))) ?_, b, rfl⟩
  intro cdv A outer s H E hr hgd
  have hu := hu_of hr
  have nd := sc_Registry_get_spent.nd
  refine ⟨_, (dss_one (ds_ret (de_fld T.f_Entry_amount (de_meth (DMet.mono C_Registry_find (by decide)) hr hgd (takes_of rfl rfl rfl rfl) (dv 0) (da_cons (dv 1) da_nil))))), ?_⟩
  intro ds w Q h
  obtain ⟨x, S, n, rfl, hR, hn, h1, h2⟩ := h
  have hR' := hR
  rcases hR' with ⟨m0, d, rfl, dx, e, k0, v, hm⟩ | rfl
  · refine ⟨dx, rgF e k0 v, hm.hd, rfl, ?_⟩
    refine ⟨_, S, n, rfl, hR, hn, fun hf env => h1 hf _, fun s a hs ha => ?_⟩
    exact ⟨rfl, _, rfl, h2 s a hs ha⟩
  · refine ⟨rfl, rfl, ?_⟩
    refine ⟨_, S, n, rfl, .inr rfl, hn, fun hf env => h1 hf _, fun s a hs ha => ?_⟩
    exact ⟨rfl, _, rfl, h2 s a hs ha⟩
def sp_Registry_get_prices : DSp := fun ds w Q => ∃ x S n, ds = [x, n] ∧ RgIs w x S ∧ (tyN n).isSome = true ∧ (hasN n (keysN S.en) = false → w.rzA "UnknownName" none) ∧ ∀ s a, n = .str s → lk S.en s = some a → (keysN a.c).Nodup ∧ a.c.length ≤ 1000 ∧ Q (.dic (mK .int (ascN a.c))) w
theorem ok_Registry_get_prices (T : Tx K mg base tp) (F : FnMe K "Registry" "get_prices" "Registry.get_prices" s_Registry_get_prices ["self", "name"]) (C_Registry_find : DMet P w K mg base 1 "Registry" "find" 2 sp_Registry_find) : DMet P w K mg base 2 "Registry" "get_prices" 2 sp_Registry_get_prices := by
  obtain ⟨C, f, fd, kC, hC, hM, F, b⟩ := F.ex
  refine ⟨C, f, fd, _, kC, hC, hM, dfn F sc_Registry_get_prices (by intro ds w Q h; first | exact h.elim | (unfold sp_Registry_get_prices at h; first | (obtain ⟨rfl, _⟩ := h; rfl) | (obtain ⟨_, rfl, _⟩ := h; rfl) | (obtain ⟨_, _, rfl, _⟩ := h; rfl) | (obtain ⟨_, _, _, rfl, _⟩ := h; rfl) | (obtain ⟨_, _, _, _, rfl, _⟩ := h; rfl) | (obtain ⟨_, _, _, _, _, rfl, _⟩ := h; rfl) | (obtain ⟨_, _, _, _, _, _, rfl, _⟩ := h; rfl) | (obtain ⟨_, _, _, _, _, _, _, rfl, _⟩ := h; rfl) | (obtain ⟨_, _, _, _, _, _, _, _, rfl, _⟩ := h; rfl) | (split at h <;> first | rfl | exact h.elim))) ?_, b, rfl⟩
  intro cdv A outer s H E hr hgd
  have hu := hu_of hr
  have nd := sc_Registry_get_prices.nd
  refine ⟨_, (dss_cons (ds_set (i := 2) nd (de_fld T.f_Entry_costs (de_meth (DMet.mono C_Registry_find (by decide)) hr hgd (takes_of rfl rfl rfl rfl) (dv 0) (da_cons (dv 1) da_nil))))
      (dss_one (ds_ret (de_dcG (own := [("binding", 3)]) finD_ok rfl nd (di_any (de_callB (cd_sorted rfl hr.units) T.b_sorted (da_cons (dv 2) da_nil))) (by kernel_rfl) (fun _ _ _ _ _ => (dg_name 3 nd)) (fun _ _ _ _ _ => dts_nil) (fun _ _ _ _ _ => (dv 3)) (fun _ _ _ _ _ => (de_sub hu (dv 2) (dv 3))))))), ?_⟩
  intro ds w Q h
  obtain ⟨x, S, n, rfl, hR, hn, h1, h2⟩ := h
  have hR' := hR
  rcases hR' with ⟨m0, d, rfl, dx, e, k0, v, hm⟩ | rfl
  · refine ⟨dx, rgF e k0 v, hm.hd, rfl, ?_⟩
    refine ⟨_, S, n, rfl, hR, hn, fun hf env => h1 hf _, fun s a hs ha => ?_⟩
    obtain ⟨nd, hl, hq⟩ := h2 s a hs ha
    refine ⟨rfl, _, rfl, ?_⟩
    refine ⟨keysN a.c, mK_keys D.int a.c, ?_⟩
    refine dc_mapM (sortT (keysN a.c)) D.str rfl (fun b => b) (fun b => .int (valI a.c b)) (by rw [sortT_len, len_keysN]; omega) (by rw [List.map_id']; exact (sortT_perm _).nodup_iff.mpr nd) (fun b hb R hR => ?_) ?_
    · exact ⟨.inr b, _, rfl, sub_key (lk_valI (mem_sortT.mp hb)), .inr b, rfl, hR⟩
    have e1 : (sortT (keysN a.c)).map (fun b => ((Sum.inr b, .int (valI a.c b)) : Key × D)) = mK .int (ascN a.c) := by
      rw [← keysN_ascN]
      unfold keysN mK
      rw [List.map_map]
      refine List.map_congr_left fun x hx => ?_
      have hx2 : (x.1, x.2) ∈ a.c := (ascN_perm _).mem_iff.mp hx
      have : valI a.c x.1 = x.2 := by unfold valI; rw [lk_of_mem nd hx2]; rfl
      show ((Sum.inr x.1, .int (valI a.c x.1)) : Key × D) = _
      rw [this]
    dsimp only [finD]
    rw [e1]
    exact hq
  · refine ⟨rfl, rfl, ?_⟩
    refine ⟨_, S, n, rfl, .inr rfl, hn, fun hf env => h1 hf _, fun s a hs ha => ?_⟩
    obtain ⟨nd, hl, hq⟩ := h2 s a hs ha
    refine ⟨rfl, _, rfl, ?_⟩
    refine ⟨keysN a.c, mK_keys D.int a.c, ?_⟩
    refine dc_mapM (sortT (keysN a.c)) D.str rfl (fun b => b) (fun b => .int (valI a.c b)) (by rw [sortT_len, len_keysN]; omega) (by rw [List.map_id']; exact (sortT_perm _).nodup_iff.mpr nd) (fun b hb R hR => ?_) ?_
    · exact ⟨.inr b, _, rfl, sub_key (lk_valI (mem_sortT.mp hb)), .inr b, rfl, hR⟩
    have e1 : (sortT (keysN a.c)).map (fun b => ((Sum.inr b, .int (valI a.c b)) : Key × D)) = mK .int (ascN a.c) := by
      rw [← keysN_ascN]
      unfold keysN mK
      rw [List.map_map]
      refine List.map_congr_left fun x hx => ?_
      have hx2 : (x.1, x.2) ∈ a.c := (ascN_perm _).mem_iff.mp hx
      have : valI a.c x.1 = x.2 := by unfold valI; rw [lk_of_mem nd hx2]; rfl
      show ((Sum.inr x.1, .int (valI a.c x.1)) : Key × D) = _
      rw [this]
    dsimp only [finD]
    rw [e1]
    exact hq
def sp_Program_parts : DSp := fun ds w Q => ∃ P, ds = [progD P] ∧ Q (partsD P) w
theorem ok_Program_parts (T : Tx K mg base tp) (F : FnMe K "Program" "parts" "Program.parts" s_Program_parts ["self"])  : DMet P w K mg base 1 "Program" "parts" 1 sp_Program_parts := by
  obtain ⟨C, f, fd, kC, hC, hM, F, b⟩ := F.ex
  refine ⟨C, f, fd, _, kC, hC, hM, dfn F sc_Program_parts (by intro ds w Q h; first | exact h.elim | (unfold sp_Program_parts at h; first | (obtain ⟨rfl, _⟩ := h; rfl) | (obtain ⟨_, rfl, _⟩ := h; rfl) | (obtain ⟨_, _, rfl, _⟩ := h; rfl) | (obtain ⟨_, _, _, rfl, _⟩ := h; rfl) | (obtain ⟨_, _, _, _, rfl, _⟩ := h; rfl) | (obtain ⟨_, _, _, _, _, rfl, _⟩ := h; rfl) | (obtain ⟨_, _, _, _, _, _, rfl, _⟩ := h; rfl) | (obtain ⟨_, _, _, _, _, _, _, rfl, _⟩ := h; rfl) | (obtain ⟨_, _, _, _, _, _, _, _, rfl, _⟩ := h; rfl) | (split at h <;> first | rfl | exact h.elim))) ?_, b, rfl⟩
  intro cdv A outer s H E hr hgd
  have hu := hu_of hr
  have nd := sc_Program_parts.nd
  refine ⟨_, (dss_one (ds_ret (de_tup (da_cons (de_fld T.f_Program_parents (dv 0)) (da_cons (de_fld T.f_Program_declared (dv 0)) (da_cons (de_fld T.f_Program_targets (dv 0)) (da_cons (de_fld T.f_Program_outside (dv 0)) (da_cons (de_fld T.f_Program_blocked (dv 0)) da_nil)))))))), ?_⟩
  intro ds w Q h
  obtain ⟨P, rfl, hq⟩ := h
  exact ⟨rfl, _, rfl, rfl, _, rfl, rfl, _, rfl, rfl, _, rfl, rfl, _, rfl, sz_nat 5, hq⟩
def sp_Program___eq__ : DSp := fun ds w Q => ∃ P P', ds = [progD P, progD P'] ∧ WF P ∧ WF P' ∧ Ord P ∧ Ord P' ∧ Q (.bl (decide (P = P'))) w
theorem ok_Program___eq__ (T : Tx K mg base tp) (F : FnMe K "Program" "__eq__" "Program.__eq__" s_Program___eq__ ["self", "other"]) (C_Program_parts : DMet P w K mg base 1 "Program" "parts" 1 sp_Program_parts) : DMet P w K mg base 2 "Program" "__eq__" 2 sp_Program___eq__ := by
  obtain ⟨C, f, fd, kC, hC, hM, F, b⟩ := F.ex
  refine ⟨C, f, fd, _, kC, hC, hM, dfn F sc_Program___eq__ (by intro ds w Q h; first | exact h.elim | (unfold sp_Program___eq__ at h; first | (obtain ⟨rfl, _⟩ := h; rfl) | (obtain ⟨_, rfl, _⟩ := h; rfl) | (obtain ⟨_, _, rfl, _⟩ := h; rfl) | (obtain ⟨_, _, _, rfl, _⟩ := h; rfl) | (obtain ⟨_, _, _, _, rfl, _⟩ := h; rfl) | (obtain ⟨_, _, _, _, _, rfl, _⟩ := h; rfl) | (obtain ⟨_, _, _, _, _, _, rfl, _⟩ := h; rfl) | (obtain ⟨_, _, _, _, _, _, _, rfl, _⟩ := h; rfl) | (obtain ⟨_, _, _, _, _, _, _, _, rfl, _⟩ := h; rfl) | (split at h <;> first | rfl | exact h.elim))) ?_, b, rfl⟩
  intro cdv A outer s H E hr hgd
  have hu := hu_of hr
  have nd := sc_Program___eq__.nd
  refine ⟨_, (dss_one (ds_ret (de_and (de_isiC T.i_Program T.b_isinstance (dv 1)) (de_one (de_cmp (od_eqW (u150 hr)) (de_meth0 (DMet.mono C_Program_parts (by decide)) hr hgd (takes_of rfl rfl rfl rfl) (dv 0)) (de_meth0 (DMet.mono C_Program_parts (by decide)) hr hgd (takes_of rfl rfl rfl rfl) (dv 1))))))), ?_⟩
  intro ds w Q h
  obtain ⟨P, P', rfl, o, o', s, s', hq⟩ := h
  refine ⟨rfl, rfl, rfl, P, rfl, rfl, rfl, P', rfl, trivial, 3, _, by decide, parts_eqW o o' s s', hq⟩
def sp_Registry_get_program : DSp := fun ds w Q => ∃ x S n, ds = [x, n] ∧ RgIs w x S ∧ (tyN n).isSome = true ∧ (hasN n (keysN S.en) = false → w.rzA "UnknownName" none) ∧ ∀ s a, n = .str s → lk S.en s = some a → Q (progD a.P) w
theorem ok_Registry_get_program (T : Tx K mg base tp) (F : FnMe K "Registry" "get_program" "Registry.get_program" s_Registry_get_program ["self", "name"]) (C_Registry_find : DMet P w K mg base 1 "Registry" "find" 2 sp_Registry_find) : DMet P w K mg base 2 "Registry" "get_program" 2 sp_Registry_get_program := by
  obtain ⟨C, f, fd, kC, hC, hM, F, b⟩ := F.ex
  refine ⟨C, f, fd, _, kC, hC, hM, dfn F sc_Registry_get_program (by intro ds w Q h; first | exact h.elim | (unfold sp_Registry_get_program at h; first | (obtain ⟨rfl, _⟩ := h; rfl) | (obtain ⟨_, rfl, _⟩ := h; rfl) | (obtain ⟨_, _, rfl, _⟩ := h; rfl) | (obtain ⟨_, _, _, rfl, _⟩ := h; rfl) | (obtain ⟨_, _, _, _, rfl, _⟩ := h; rfl) | (obtain ⟨_, _, _, _, _, rfl, _⟩ := h; rfl) | (obtain ⟨_, _, _, _, _, _, rfl, _⟩ := h; rfl) | (obtain ⟨_, _, _, _, _, _, _, rfl, _⟩ := h; rfl) | (obtain ⟨_, _, _, _, _, _, _, _, rfl, _⟩ := h; rfl) | (split at h <;> first | rfl | exact h.elim))) ?_, b, rfl⟩
  intro cdv A outer s H E hr hgd
  have hu := hu_of hr
  have nd := sc_Registry_get_program.nd
  refine ⟨_, (dss_one (ds_ret (de_fld T.f_Entry_content (de_meth (DMet.mono C_Registry_find (by decide)) hr hgd (takes_of rfl rfl rfl rfl) (dv 0) (da_cons (dv 1) da_nil))))), ?_⟩
  intro ds w Q h
  obtain ⟨x, S, n, rfl, hR, hn, h1, h2⟩ := h
  have hR' := hR
  rcases hR' with ⟨m0, d, rfl, dx, e, k0, v, hm⟩ | rfl
  · refine ⟨dx, rgF e k0 v, hm.hd, rfl, ?_⟩
    refine ⟨_, S, n, rfl, hR, hn, fun hf env => h1 hf _, fun s a hs ha => ?_⟩
    exact ⟨rfl, _, rfl, h2 s a hs ha⟩
  · refine ⟨rfl, rfl, ?_⟩
    refine ⟨_, S, n, rfl, .inr rfl, hn, fun hf env => h1 hf _, fun s a hs ha => ?_⟩
    exact ⟨rfl, _, rfl, h2 s a hs ha⟩
def stD59 (S : Rg) : D := .dic [(.inr "books", .dic (mK progD (booksOf S))), (.inr "log", .lst (S.ev.map .str))]
def sp__law_same : DSp := fun ds w Q => ∃ S, ds = [rgD S, stD59 S] ∧ Rg59 S ∧ S.en.length ≤ 1000 ∧ (∀ x ∈ S.ev, PyData.strOk x = true) ∧ Q (.bl true) w
theorem ok__law_same (T : Tx K mg base tp) (F : FnAt K mg "_law_same" s__law_same ["_law_store", "_law_state"]) (C_Registry_get_spent : DMet P w K mg base 2 "Registry" "get_spent" 2 sp_Registry_get_spent) (C_Registry_get_prices : DMet P w K mg base 2 "Registry" "get_prices" 2 sp_Registry_get_prices) (C_Program___eq__ : DMet P w K mg base 2 "Program" "__eq__" 2 sp_Program___eq__) (C_Registry_get_program : DMet P w K mg base 2 "Registry" "get_program" 2 sp_Registry_get_program) (C_Registry_get_log : DMet P w K mg base 1 "Registry" "get_log" 1 sp_Registry_get_log) (C_Registry_get_names : DMet P w K mg base 1 "Registry" "get_names" 1 sp_Registry_get_names) : DCal P w K mg base 4 "_law_same" 2 sp__law_same := by
  obtain ⟨f, fd, F, hm, b⟩ := F.ex
  refine ⟨f, fd, _, dfn F sc__law_same (by intro ds w Q h; first | exact h.elim | (unfold sp__law_same at h; first | (obtain ⟨rfl, _⟩ := h; rfl) | (obtain ⟨_, rfl, _⟩ := h; rfl) | (obtain ⟨_, _, rfl, _⟩ := h; rfl) | (obtain ⟨_, _, _, rfl, _⟩ := h; rfl) | (obtain ⟨_, _, _, _, rfl, _⟩ := h; rfl) | (obtain ⟨_, _, _, _, _, rfl, _⟩ := h; rfl) | (obtain ⟨_, _, _, _, _, _, rfl, _⟩ := h; rfl) | (obtain ⟨_, _, _, _, _, _, _, rfl, _⟩ := h; rfl) | (obtain ⟨_, _, _, _, _, _, _, _, rfl, _⟩ := h; rfl) | (split at h <;> first | rfl | exact h.elim))) ?_, hm, F.kp, b, rfl⟩
  intro cdv A outer s H E hr hgd
  have hu := hu_of hr
  have nd := sc__law_same.nd
  refine ⟨_, (dss_cons (ds_if (dt_w (dw_or (dt_cmp (od_ne hr.units) (de_meth0 (DMet.mono C_Registry_get_names (by decide)) hr hgd (takes_of rfl rfl rfl rfl) (dv 0)) (de_callB (cd_sorted rfl hr.units) T.b_sorted (da_cons (de_sub hu (dv 1) de_str) da_nil))) (dw_or1 (dt_cmp (od_ne hr.units) (de_meth0 (DMet.mono C_Registry_get_log (by decide)) hr hgd (takes_of rfl rfl rfl rfl) (dv 0)) (de_sub hu (dv 1) de_str))))) (dss_one (ds_ret de_bl)) dss_nil)
      (dss_cons (ds_for (passes_of rfl) rfl (di_any (de_sub hu (dv 1) de_str)) (dg_name 2 nd) (dss_cons (ds_if (dt_cmp (od_neOwn T.n_Program (DMet.mono C_Program___eq__ (by decide)) hr hgd) (de_meth (DMet.mono C_Registry_get_program (by decide)) hr hgd (takes_unl (takes_of rfl rfl rfl rfl)) (dv 0) (da_cons (dv 2) da_nil)) (de_sub hu (de_sub hu (dv 1) de_str) (dv 2))) (dss_one (ds_ret de_bl)) dss_nil)
      (dss_one (ds_if (dt_cmp (od_ne hr.units) (de_callB (cd_repr hgd hr.units) T.b_repr (da_cons (de_lst (da_cons (de_meth (DMet.mono C_Registry_get_prices (by decide)) hr hgd (takes_unl (takes_of rfl rfl rfl rfl)) (dv 0) (da_cons (dv 2) da_nil)) (da_cons (de_meth (DMet.mono C_Registry_get_spent (by decide)) hr hgd (takes_unl (takes_of rfl rfl rfl rfl)) (dv 0) (da_cons (dv 2) da_nil)) da_nil))) da_nil)) de_str) (dss_one (ds_ret de_bl)) dss_nil))))
      (dss_one (ds_ret de_bl)))), ?_⟩
  intro ds w Q h
  obtain ⟨S, rfl, g, hl, he, hq⟩ := h
  have kw : ∀ s ∈ sortT (keysN S.en), PyData.strOk s = true := fun s hs => word_ok (g.wd s (mem_sortT.mp hs))
  refine ⟨rfl, rfl, rgD S, S, rfl, .inr rfl, ?_⟩
  refine ⟨_, _, rfl, rfl, keysN (booksOf S), mK_keys progD _, ?_⟩
  rw [books_keys]
  refine eq_strsL kw kw ?_
  refine ifne (fun c => absurd rfl (of_decide_eq_false c)) (fun _ => ?_)
  refine ⟨rfl, rfl, rgD S, S, rfl, .inr rfl, ?_⟩
  refine ⟨_, _, rfl, rfl, ?_⟩
  refine eq_strsL he he ?_
  refine ifne (fun c => absurd rfl (of_decide_eq_false c)) (fun _ => ?_)
  refine ⟨_, _, rfl, rfl, ?_⟩
  refine ⟨fun i env w2 => ∃ a, env = [some (rgD S), some (stD59 S), a] ∧ w2 = w, ⟨_, rfl, rfl⟩, ?_, ?_⟩
  · rintro i x env w hx ⟨a0, rfl, rfl⟩
    rw [dkeys_mK, List.getElem?_map] at hx
    obtain ⟨s, hs, rfl⟩ := Option.map_eq_some_iff.mp hx
    have hk : s ∈ keysN S.en := by rw [← books_keys]; exact List.mem_of_getElem? hs
    obtain ⟨a, ha⟩ := lk_some hk
    obtain ⟨ac, aa, aw, ao⟩ := g.gd _ (lk_mem ha)
    have one : hasN (.str s) (keysN S.en) = true := decide_eq_true hk
    have no : hasN (.str s) (keysN S.en) = false → ∀ {X : Prop}, X := fun h => by rw [one] at h; cases h
    refine ⟨rfl, rfl, rgD S, S, .str s, rfl, .inr rfl, rfl, fun h => no h, fun s2 a2 hs2 ha2 => ?_⟩
    cases hs2
    rw [ha] at ha2
    cases ha2
    refine ⟨_, _, rfl, rfl, .inr s, progD a.P, rfl, by rw [valD_mK, books_lk, ha]; rfl, ?_⟩
    refine ⟨_, _, rfl, rfl, a.P, a.P, rfl, aw, aw, ao, ao, _, rfl, ?_⟩
    refine ifne (fun c => absurd rfl (of_decide_eq_false c)) (fun _ => ?_)
    refine ⟨rfl, rfl, rgD S, S, .str s, rfl, .inr rfl, rfl, fun h => no h, fun s2 a2 hs2 ha2 => ?_⟩
    cases hs2
    rw [ha] at ha2
    cases ha2
    rw [ac, show ascN ([] : Tab Int) = [] from List.mergeSort_nil]
    refine ⟨.nil, Nat.zero_le _, ?_⟩
    refine ⟨rfl, rfl, rgD S, S, .str s, rfl, .inr rfl, rfl, fun h => no h, fun s2 a2 hs2 ha2 => ?_⟩
    cases hs2
    rw [ha] at ha2
    cases ha2
    rw [aa]
    refine ⟨sz_nat 2, .list [.dict [], .int 0], rfl, ⟨by decide +kernel, by decide +kernel, by decide +kernel, fun _ => rfl⟩, ?_⟩
    rw [show (PyData.list [.dict [], .int 0]).shown = "[{}, 0]" from by decide +kernel]
    exact ⟨_, rfl, rfl⟩
  · rintro env w2 ⟨a0, rfl, rfl⟩
    exact hq
def sp__law_has : DSp := fun ds w Q => ∃ n b kvs ks, ds = [.ref b, n] ∧ (tyN n).isSome = true ∧ w.m b = some (.dic kvs) ∧ kvs.map (·.1) = ks.map Sum.inr ∧ Q (.bl (hasN n ks)) w
theorem ok__law_has (T : Tx K mg base tp) (F : FnAt K mg "_law_has" s__law_has ["_law_some", "_law_nym"])  : DCal P w K mg base 1 "_law_has" 2 sp__law_has := by
  obtain ⟨f, fd, F, hm, b⟩ := F.ex
  refine ⟨f, fd, _, dfn F sc__law_has (by intro ds w Q h; first | exact h.elim | (unfold sp__law_has at h; first | (obtain ⟨rfl, _⟩ := h; rfl) | (obtain ⟨_, rfl, _⟩ := h; rfl) | (obtain ⟨_, _, rfl, _⟩ := h; rfl) | (obtain ⟨_, _, _, rfl, _⟩ := h; rfl) | (obtain ⟨_, _, _, _, rfl, _⟩ := h; rfl) | (obtain ⟨_, _, _, _, _, rfl, _⟩ := h; rfl) | (obtain ⟨_, _, _, _, _, _, rfl, _⟩ := h; rfl) | (obtain ⟨_, _, _, _, _, _, _, rfl, _⟩ := h; rfl) | (obtain ⟨_, _, _, _, _, _, _, _, rfl, _⟩ := h; rfl) | (split at h <;> first | rfl | exact h.elim))) ?_, hm, F.kp, b, rfl⟩
  intro cdv A outer s H E hr hgd
  have hu := hu_of hr
  have nd := sc__law_has.nd
  refine ⟨_, (dss_one (ds_ret (de_and (de_callB cd_isi T.b_isinstance (da_cons (dv 1) (da_cons (de_ty (n := "str") T.b_str) da_nil))) (de_one (de_cmp (od_in hu) (dv 1) (dv 0)))))), ?_⟩
  intro ds w Q h
  obtain ⟨n, b, kvs, ks, rfl, hn, he, hk, hq⟩ := h
  have vin : ∀ s : Str, (valD kvs (.inr s)).isSome = decide (s ∈ ks) := fun s => by
    rw [Bool.eq_iff_iff, decide_eq_true_eq]
    have : (valD kvs (.inr s)).isSome = true ↔ (Sum.inr s : Key) ∈ kvs.map (·.1) := by
      unfold valD
      rw [Option.isSome_map, List.find?_isSome]
      simp only [List.mem_map, decide_eq_true_eq]
    rw [this, hk]
    simp
  cases n with
  | str s =>
    refine ⟨_, _, rfl, rfl, .inr ⟨kvs, .inr s, he, rfl, ?_⟩⟩
    rw [vin]
    rw [Bool.false_xor]
    exact hq
  | non => exact ⟨_, _, rfl, rfl, hq⟩
  | bl _ => exact ⟨_, _, rfl, rfl, hq⟩
  | int _ => exact ⟨_, _, rfl, rfl, hq⟩
  | lst _ => exact ⟨_, _, rfl, rfl, hq⟩
  | tup _ => exact ⟨_, _, rfl, rfl, hq⟩
  | dic _ => exact ⟨_, _, rfl, rfl, hq⟩
  | _ => cases hn
def sp_Program___init__ : DSp := fun ds w Q => ∃ p dx P r, ds = [.ref p, .dic (scK P.sc), .dic (tbK P.bn), .dic (tbK P.us), .dic (tbK P.ou), r] ∧ WF P ∧ wordsOf r P.rs ∧ w.m p = some (.ins "Program" dx []) ∧ Q .non (w.put p (.ins "Program" dx (progF (sortP P))))
theorem ok_Program___init__ (T : Tx K mg base tp) (F : FnMk K mg "Program" "Program.__init__" s_Program___init__ ["self", "scopes", "bindings", "uses", "outer", "reserved"]) (C_ascending : DCal P w K mg base 1 "ascending" 1 sp_ascending) (C_is_program : DCal P w K mg base 3 "is_program" 5 sp_is_program) : DMak P w K mg base 4 "Program" 6 sp_Program___init__ := by
  obtain ⟨C, f, fd, kC, hC, hM, F, b⟩ := F.ex
  refine ⟨C, f, fd, _, kC, hC, hM, dfn F sc_Program___init__ (by intro ds w Q h; first | exact h.elim | (unfold sp_Program___init__ at h; first | (obtain ⟨rfl, _⟩ := h; rfl) | (obtain ⟨_, rfl, _⟩ := h; rfl) | (obtain ⟨_, _, rfl, _⟩ := h; rfl) | (obtain ⟨_, _, _, rfl, _⟩ := h; rfl) | (obtain ⟨_, _, _, _, rfl, _⟩ := h; rfl) | (obtain ⟨_, _, _, _, _, rfl, _⟩ := h; rfl) | (obtain ⟨_, _, _, _, _, _, rfl, _⟩ := h; rfl) | (obtain ⟨_, _, _, _, _, _, _, rfl, _⟩ := h; rfl) | (obtain ⟨_, _, _, _, _, _, _, _, rfl, _⟩ := h; rfl) | (split at h <;> first | rfl | exact h.elim))) ?_, b, rfl⟩
  intro cdv A outer s H E hr hgd
  have hu := hu_of hr
  have nd := sc_Program___init__.nd
  refine ⟨_, (dss_cons (ds_if (dt_not (dt_val (de_call (DCal.mono C_is_program (by decide)) hr hgd (takes_of rfl rfl rfl rfl) (da_cons (dv 1) (da_cons (dv 2) (da_cons (dv 3) (da_cons (dv 4) (da_cons (dv 5) da_nil)))))))) (dss_one ds_never) dss_nil)
      (dss_cons (ds_fld T.f_Program_parents (dv 0) (de_call (DCal.mono C_ascending (by decide)) hr hgd (takes_of rfl rfl rfl rfl) (da_cons (dv 1) da_nil)))
      (dss_cons (ds_fld T.f_Program_declared (dv 0) (de_call (DCal.mono C_ascending (by decide)) hr hgd (takes_of rfl rfl rfl rfl) (da_cons (dv 2) da_nil)))
      (dss_cons (ds_fld T.f_Program_targets (dv 0) (de_call (DCal.mono C_ascending (by decide)) hr hgd (takes_of rfl rfl rfl rfl) (da_cons (dv 3) da_nil)))
      (dss_cons (ds_fld T.f_Program_outside (dv 0) (de_call (DCal.mono C_ascending (by decide)) hr hgd (takes_of rfl rfl rfl rfl) (da_cons (dv 4) da_nil)))
      (dss_one (ds_fld T.f_Program_blocked (dv 0) (de_callTy cd_tuple T.b_tuple (da_cons (de_sortSet rfl hr.units T.b_sorted T.b_set (dv 5)) da_nil))))))))), ?_⟩
  intro ds w Q h
  obtain ⟨p, dx, P, r, rfl, wf, hw, hm, hq⟩ := h
  have o := wf.okProg hw
  rw [← progFs_nat wf] at hq
  obtain ⟨k1, z1⟩ := o.k1
  obtain ⟨k2, z2⟩ := o.k2
  obtain ⟨k3, z3⟩ := o.k3
  obtain ⟨k4, z4⟩ := o.k4
  have few := o.few
  have hp := o.ok
  refine ⟨o.p1, o.p2, o.p3, o.p4, o.p5, small_dic z1, small_dic z2, small_dic z3, small_dic z4, words_small hw (scan_size few), ?_⟩
  refine ifn (fun _ => ?_) (fun e => by rw [hp] at e; cases e)
  refine ⟨k1, Nat.le_of_lt z1, dx, _, hm, by decide, ?_⟩
  refine ⟨k2, Nat.le_of_lt z2, dx, _, W.put_at, Nat.lt_of_le_of_lt (putFD_le (Nat.le_refl 0)) (by decide), ?_⟩
  refine ⟨k3, Nat.le_of_lt z3, dx, _, W.put_at, Nat.lt_of_le_of_lt (putFD_le (putFD_le (Nat.le_refl 0))) (by decide), ?_⟩
  refine ⟨k4, Nat.le_of_lt z4, dx, _, W.put_at, Nat.lt_of_le_of_lt (putFD_le (putFD_le (putFD_le (Nat.le_refl 0)))) (by decide), ?_⟩
  refine ⟨P.rs, words_in hw, few, dx, _, W.put_at, Nat.lt_of_le_of_lt (putFD_le (putFD_le (putFD_le (putFD_le (Nat.le_refl 0))))) (by decide), ?_⟩
  generalize scK P.sc = sc at hq ⊢
  generalize tbK P.bn = bn at hq ⊢
  generalize tbK P.us = us at hq ⊢
  generalize tbK P.ou = os at hq ⊢
  have e : putFD "blocked" (.tup ((sortT (nubT P.rs)).map .str)) (putFD "outside" (.dic (ascD os)) (putFD "targets" (.dic (ascD us)) (putFD "declared" (.dic (ascD bn)) (putFD "parents" (.dic (ascD sc)) [])))) = progFs sc bn us os P.rs := by kernel_rfl
  rw [← e] at hq
  have five : ∀ {m1 m2 m3 m4 m5 : MO}, ((((w.put p m1).put p m2).put p m3).put p m4).put p m5 = w.put p m5 := by
    intro m1 m2 m3 m4 m5
    rw [W.put_put, W.put_put, W.put_put, W.put_put]
  rw [← five (m1 := .ins "Program" dx (putFD "parents" (.dic (ascD sc)) [])) (m2 := .ins "Program" dx (putFD "declared" (.dic (ascD bn)) (putFD "parents" (.dic (ascD sc)) [])))
    (m3 := .ins "Program" dx (putFD "targets" (.dic (ascD us)) (putFD "declared" (.dic (ascD bn)) (putFD "parents" (.dic (ascD sc)) []))))
    (m4 := .ins "Program" dx (putFD "outside" (.dic (ascD os)) (putFD "targets" (.dic (ascD us)) (putFD "declared" (.dic (ascD bn)) (putFD "parents" (.dic (ascD sc)) [])))))] at hq
  exact hq
theorem lt_one (a c : Nat) : decide (([c] : List Nat) < [a]) = decide (c < a) := by
  refine decide_eq_decide.mpr ⟨fun h => ?_, fun h => ?_⟩
  · cases h with
    | rel h => exact h
    | cons h => cases h
  · exact .rel h
theorem letters_iff (c : Nat) : decide (c ∈ letters.cps.toList) = ((!decide (([c] : List Nat) < [97])) && !decide (([122] : List Nat) < [c])) := by
  have e : letters.cps.toList = (List.range 26).map (· + 97) := by decide +kernel
  rw [e, lt_one, lt_one, ← decide_not, ← decide_not, ← Bool.decide_and]
  refine decide_eq_decide.mpr ?_
  rw [List.mem_map]
  constructor
  · rintro ⟨a, ha, rfl⟩
    have := List.mem_range.mp ha
    omega
  · intro h
    exact ⟨c - 97, List.mem_range.mpr (by omega), by omega⟩
theorem alnum_iff (c : Nat) : decide (c ∈ alnum.cps.toList) = (((!decide (([c] : List Nat) < [97])) && !decide (([122] : List Nat) < [c])) || ((!decide (([c] : List Nat) < [48])) && !decide (([57] : List Nat) < [c]))) := by
  have e : alnum.cps.toList = letters.cps.toList ++ (List.range 10).map (· + 48) := by decide +kernel
  rw [← letters_iff, lt_one, lt_one, ← decide_not, ← decide_not, ← Bool.decide_and, ← Bool.decide_or]
  refine decide_eq_decide.mpr ?_
  rw [e, List.mem_append, List.mem_map]
  refine or_congr Iff.rfl ⟨?_, fun h => ⟨c - 48, List.mem_range.mpr (by omega), by omega⟩⟩
  rintro ⟨a, ha, rfl⟩
  have := List.mem_range.mp ha
  omega
def sp__law_is_word : DSp := fun ds w Q => match ds with
  | [d] => plainD d = true ∧ Q (.bl (isWord d)) w
  | _ => False
theorem ok__law_is_word (T : Tx K mg base tp) (F : FnAt K mg "_law_is_word" s__law_is_word ["_law_thing"])  : DCal P w K mg base 1 "_law_is_word" 1 sp__law_is_word := by
  obtain ⟨f, fd, F, hm, b⟩ := F.ex
  refine ⟨f, fd, _, dfn F sc__law_is_word (by intro ds w Q h; first | exact h.elim | (unfold sp__law_is_word at h; first | (obtain ⟨rfl, _⟩ := h; rfl) | (obtain ⟨_, rfl, _⟩ := h; rfl) | (obtain ⟨_, _, rfl, _⟩ := h; rfl) | (obtain ⟨_, _, _, rfl, _⟩ := h; rfl) | (obtain ⟨_, _, _, _, rfl, _⟩ := h; rfl) | (obtain ⟨_, _, _, _, _, rfl, _⟩ := h; rfl) | (obtain ⟨_, _, _, _, _, _, rfl, _⟩ := h; rfl) | (obtain ⟨_, _, _, _, _, _, _, rfl, _⟩ := h; rfl) | (obtain ⟨_, _, _, _, _, _, _, _, rfl, _⟩ := h; rfl) | (split at h <;> first | rfl | exact h.elim))) ?_, hm, F.kp, b, rfl⟩
  intro cdv A outer s H E hr hgd
  have hu := hu_of hr
  have nd := sc__law_is_word.nd
  refine ⟨_, (dss_cons (ds_if (dt_w (dw_or (dt_not (dt_val (de_callB cd_isi T.b_isinstance (da_cons (dv 0) (da_cons (de_ty (n := "str") T.b_str) da_nil))))) (dw_or (dt_not (dt_chain od_le od_le de_int (de_callB cd_len T.b_len (da_cons (dv 0) da_nil)) de_int)) (dw_or1 (dt_not (dt_chain od_le od_le de_str (de_sub hu (dv 0) de_int) de_str)))))) (dss_one (ds_ret de_bl)) dss_nil)
      (dss_one (ds_ret (de_callB (cd_all rfl) T.b_all (da_cons (de_lcG (own := [("_law_sign", 1)]) finL_ok rfl nd (di_str (dv 0)) (by kernel_rfl) (fun _ _ _ _ _ => (dg_name 1 nd)) (fun _ _ _ _ _ => dts_nil) (fun _ _ _ _ _ => (de_or (de_chain od_le od_le de_str (dv 1) de_str) (de_one (de_chain od_le od_le de_str (dv 1) de_str))))) da_nil))))), ?_⟩
  intro ds w Q h
  match ds, h with
  | [d], h =>
    obtain ⟨h1, h2⟩ := h
    cases d with
    | str x =>
      have h1 : x.length ≤ sizeLine := of_decide_eq_true h1
      refine ⟨_, true, rfl, by decide +kernel, ?_⟩
      refine ⟨h1, ?_⟩
      have fin : wordS x = false → Q (.bl false) w := fun e => by
        have h2 : Q (.bl (wordS x)) w := h2
        rw [e] at h2; exact h2
      refine ifd (fun c1 => ?_) (fun c1 => ?_)
      · refine nif (fun c2 => ?_) (fun c2 => ?_)
        · obtain ⟨c0, r, e⟩ : ∃ c r, x.cps.toList = c :: r := by
            cases e : x.cps.toList with
            | nil =>
              have : x.cps.toList.length = x.length := by simp [Str.length]
              rw [e] at this
              simp at this
              omega
            | cons c r => exact ⟨c, r, rfl⟩
          refine ⟨h1, c0, by rw [e]; exact atI0 _ _, ?_⟩
          have no : decide (c0 ∈ letters.cps.toList) = false → Q (.bl false) w := fun c3 => fin (by unfold wordS; rw [e]; simp only [List.head?]; rw [c3]; simp)
          rw [letters_iff] at no
          refine ifb (fun c3 => ?_) (fun c3 => ?_)
          · have c3 : (!decide (([c0] : List Nat) < [97])) = true := c3
            refine ifn (fun c4 => ?_) (fun c4 => ?_)
            · have c4 : (!decide (([122] : List Nat) < [c0])) = true := c4
              refine lc_map (fun d => .bl (match d with | .str y => inS y alnum | _ => false)) (by unfold DL.signs; rw [List.length_map]; exact h1) (fun y hy R hR => ?_) (all_bl _ ?_)
              · obtain ⟨c, hc, rfl⟩ := List.mem_map.mp hy
                have hR : R (.bl (inS ⟨#[c]⟩ alnum)) w.mute := hR
                rw [inS_one, alnum_iff] at hR
                have two : ∀ R2 : Prop, (R (.bl ((!decide (([c] : List Nat) < [48])) && !decide (([57] : List Nat) < [c]))) w.mute → R2) → ((!decide (([c] : List Nat) < [97])) && !decide (([122] : List Nat) < [c])) = false → R2 := fun R2 k z => by
                  rw [z, Bool.false_or] at hR
                  exact k hR
                refine ifb (fun x1 => ?_) (fun x1 => ?_)
                · have x1 : (!decide (([c] : List Nat) < [97])) = true := x1
                  refine ifb (fun x2 => ?_) (fun x2 => ?_)
                  · have x2 : (!decide (([122] : List Nat) < [c])) = true := x2
                    rw [x1, x2] at hR
                    exact hR
                  · have x2 : (!decide (([122] : List Nat) < [c])) = false := x2
                    refine two _ (fun hR => ?_) (by rw [x2, Bool.and_false])
                    refine ifb (fun x3 => ?_) (fun x3 => ?_)
                    · have x3 : (!decide (([c] : List Nat) < [48])) = true := x3
                      rw [x3, Bool.true_and] at hR
                      exact hR
                    · have x3 : (!decide (([c] : List Nat) < [48])) = false := x3
                      rw [x3, Bool.false_and] at hR
                      exact hR
                · have x1 : (!decide (([c] : List Nat) < [97])) = false := x1
                  refine two _ (fun hR => ?_) (by rw [x1, Bool.false_and])
                  refine ifb (fun x3 => ?_) (fun x3 => ?_)
                  · have x3 : (!decide (([c] : List Nat) < [48])) = true := x3
                    rw [x3, Bool.true_and] at hR
                    exact hR
                  · have x3 : (!decide (([c] : List Nat) < [48])) = false := x3
                    rw [x3, Bool.false_and] at hR
                    exact hR
              · have h2 : Q (.bl (wordS x)) w := h2
                have c3 : decide (c0 ∈ letters.cps.toList) = true := by rw [letters_iff, c3, c4]; rfl
                have e2 : wordS x = ((DL.signs x).map fun d => (match d with | .str y => inS y alnum | _ => false)).all id := by
                  unfold wordS DL.signs
                  rw [decide_eq_true (show 1 ≤ x.length by omega), decide_eq_true (show x.length ≤ 8 by omega), e]
                  simp only [List.head?]
                  rw [c3]
                  simp only [Bool.true_and, List.map_map, List.all_map]
                  congr 1
                  funext c
                  simp only [Function.comp, id]
                  rw [inS_one]
                rw [e2] at h2
                exact h2
            · have c4 : (!decide (([122] : List Nat) < [c0])) = false := c4
              exact no (by rw [c4, Bool.and_false])
          · have c3 : (!decide (([c0] : List Nat) < [97])) = false := c3
            exact no (by rw [c3, Bool.false_and])
        · exact fin (by unfold wordS; rw [decide_eq_false (show ¬ x.length ≤ 8 by omega)]; simp)
      · exact fin (by unfold wordS; rw [decide_eq_false (by omega)]; rfl)
    | non => exact ⟨_, false, rfl, by decide +kernel, h2⟩
    | bl b => exact ⟨_, false, rfl, by decide +kernel, h2⟩
    | int i => exact ⟨_, false, rfl, by decide +kernel, h2⟩
    | lst xs => exact ⟨_, false, rfl, by decide +kernel, h2⟩
    | tup xs => exact ⟨_, false, rfl, by decide +kernel, h2⟩
    | dic xs => exact ⟨_, false, rfl, by decide +kernel, h2⟩
    | _ => cases h1
def sp__law_new_name : DSp := fun ds w Q => ∃ n b kvs ks, ds = [n, .ref b] ∧ plainD n = true ∧ w.m b = some (.dic kvs) ∧ kvs.map (·.1) = ks.map Sum.inr ∧ Q (.str (errW (nameTo n ks))) w
theorem val_in {kvs : List (Key × D)} {ks : List Str} (hk : kvs.map (·.1) = ks.map Sum.inr) (s : Str) : (valD kvs (.inr s)).isSome = decide (s ∈ ks) := by
  rw [Bool.eq_iff_iff, decide_eq_true_eq]
  have : (valD kvs (.inr s)).isSome = true ↔ (Sum.inr s : Key) ∈ kvs.map (·.1) := by
    unfold valD
    rw [Option.isSome_map, List.find?_isSome]
    simp only [List.mem_map, decide_eq_true_eq]
  rw [this, hk]
  simp
theorem ok__law_new_name (T : Tx K mg base tp) (F : FnAt K mg "_law_new_name" s__law_new_name ["_law_nym", "_law_existing"]) (C__law_is_word : DCal P w K mg base 1 "_law_is_word" 1 sp__law_is_word) : DCal P w K mg base 2 "_law_new_name" 2 sp__law_new_name := by
  obtain ⟨f, fd, F, hm, b⟩ := F.ex
  refine ⟨f, fd, _, dfn F sc__law_new_name (by intro ds w Q h; first | exact h.elim | (unfold sp__law_new_name at h; first | (obtain ⟨rfl, _⟩ := h; rfl) | (obtain ⟨_, rfl, _⟩ := h; rfl) | (obtain ⟨_, _, rfl, _⟩ := h; rfl) | (obtain ⟨_, _, _, rfl, _⟩ := h; rfl) | (obtain ⟨_, _, _, _, rfl, _⟩ := h; rfl) | (obtain ⟨_, _, _, _, _, rfl, _⟩ := h; rfl) | (obtain ⟨_, _, _, _, _, _, rfl, _⟩ := h; rfl) | (obtain ⟨_, _, _, _, _, _, _, rfl, _⟩ := h; rfl) | (obtain ⟨_, _, _, _, _, _, _, _, rfl, _⟩ := h; rfl) | (split at h <;> first | rfl | exact h.elim))) ?_, hm, F.kp, b, rfl⟩
  intro cdv A outer s H E hr hgd
  have hu := hu_of hr
  have nd := sc__law_new_name.nd
  refine ⟨_, (dss_cons (ds_if (dt_not (dt_val (de_call (DCal.mono C__law_is_word (by decide)) hr hgd (takes_of rfl rfl rfl rfl) (da_cons (dv 0) da_nil)))) (dss_one (ds_ret de_str)) dss_nil)
      (dss_one (ds_ret (de_if (dt_cmp (od_in hu) (dv 0) (dv 1)) de_str de_str)))), ?_⟩
  intro ds w Q h
  obtain ⟨n, b, kvs, ks, rfl, hp, he, hk, hq⟩ := h
  refine ⟨hp, ?_⟩
  refine ifn (fun c => ?_) (fun c => ?_)
  · cases n with
    | str s =>
      have hw : wordS s = true := c
      have hq : Q (.str (errW (if wordS s = true then (if s ∈ ks then some ("DuplicateName" : Str) else none) else some "InvalidWord"))) w := hq
      rw [if_pos hw] at hq
      refine .inr ⟨kvs, .inr s, he, rfl, ?_⟩
      rw [val_in hk]
      refine ify (b := decide (s ∈ ks)) (fun c2 => ?_) (fun c2 => ?_)
      · rw [if_pos (of_decide_eq_true c2)] at hq
        exact hq
      · rw [if_neg (of_decide_eq_false c2)] at hq
        exact hq
    | _ => cases c
  · have e2 : nameTo n ks = some "InvalidWord" := by
      cases n with
      | str s => show (if wordS s = true then _ else _) = some ("InvalidWord" : Str); rw [if_neg (by rw [show wordS s = false from c]; decide)]
      | _ => rfl
    rw [e2] at hq
    exact hq
def sp__law_due : DSp := fun ds w Q => ∃ b l S cmd, ds = [.dic [(.inr "books", .ref b), (.inr "log", .ref l)], cmdD cmd] ∧ w.m b = some (.dic (mK progD (booksOf S))) ∧ Rg59 S ∧ CmdOk cmd ∧ S.en.length ≤ 10000 ∧ Q (.str (errT (cmdTo S cmd))) (w.put b (.dic (mK progD (booksOf (cmdTo S cmd).st))))
theorem ok__law_due (T : Tx K mg base tp) (F : FnAt K mg "_law_due" s__law_due ["_law_state", "_law_command_here"]) (C__law_has : DCal P w K mg base 1 "_law_has" 2 sp__law_has) (C_Program___init__ : DMak P w K mg base 4 "Program" 6 sp_Program___init__) (C__law_is_word : DCal P w K mg base 1 "_law_is_word" 1 sp__law_is_word) (C__law_new_name : DCal P w K mg base 2 "_law_new_name" 2 sp__law_new_name) : DCal P w K mg base 6 "_law_due" 2 sp__law_due := by
  obtain ⟨f, fd, F, hm, b⟩ := F.ex
  refine ⟨f, fd, _, dfn F sc__law_due (by intro ds w Q h; first | exact h.elim | (unfold sp__law_due at h; first | (obtain ⟨rfl, _⟩ := h; rfl) | (obtain ⟨_, rfl, _⟩ := h; rfl) | (obtain ⟨_, _, rfl, _⟩ := h; rfl) | (obtain ⟨_, _, _, rfl, _⟩ := h; rfl) | (obtain ⟨_, _, _, _, rfl, _⟩ := h; rfl) | (obtain ⟨_, _, _, _, _, rfl, _⟩ := h; rfl) | (obtain ⟨_, _, _, _, _, _, rfl, _⟩ := h; rfl) | (obtain ⟨_, _, _, _, _, _, _, rfl, _⟩ := h; rfl) | (obtain ⟨_, _, _, _, _, _, _, _, rfl, _⟩ := h; rfl) | (split at h <;> first | rfl | exact h.elim))) ?_, hm, F.kp, b, rfl⟩
  intro cdv A outer s H E hr hgd
  have hu := hu_of hr
  have nd := sc__law_due.nd
  refine ⟨_, (dss_cons (ds_set (i := 2) nd (de_sub hu (dv 1) de_int))
      (dss_cons (ds_if (dt_cmp (od_eq hr.units) (de_sub hu (dv 1) de_int) de_str) (dss_cons (ds_set (i := 3) nd (de_call (DCal.mono C__law_new_name (by decide)) hr hgd (takes_of rfl rfl rfl rfl) (da_cons (dv 2) (da_cons (de_sub hu (dv 0) de_str) da_nil))))
      (dss_cons (ds_set (i := 4) nd (de_if (dt_val (de_isiT T.b_isinstance (de_sub hu (dv 1) de_int) (da_cons (de_ty (n := "list") T.b_list) (da_cons (de_ty (n := "tuple") T.b_tuple) da_nil)))) (de_sub hu (dv 1) de_int) (de_lst (da_cons de_non da_nil))))
      (dss_cons (ds_if (dt_w (dw_and (dt_cmp (od_eq hr.units) (dv 3) de_str) (dw_and1 (dt_not (dt_val (de_callB (cd_all rfl) T.b_all (da_cons (de_lcG (own := [("_law_word", 5)]) finL_ok rfl nd (di_any (de_op od_add (de_lst (da_cons (de_sub hu (dv 1) de_int) da_nil)) (de_callTy (cd_list rfl) T.b_list (da_cons (dv 4) da_nil)))) (by kernel_rfl) (fun _ _ _ _ _ => (dg_name 5 nd)) (fun _ _ _ _ _ => dts_nil) (fun _ _ _ _ _ => (de_call (DCal.mono C__law_is_word (by decide)) hr hgd takes0 (da_cons (dv 5) da_nil)))) da_nil))))))) (dss_one (ds_set (i := 3) nd de_str)) dss_nil)
      (dss_cons (ds_if (dt_cmp (od_eq hr.units) (dv 3) de_str) (dss_one (ds_asg (de_make (DMak.mono C_Program___init__ (by decide)) hr hgd (takes_of rfl rfl rfl rfl) (da_cons (de_disp finD_ok (dps_cons (de_sub hu (dv 1) de_int) de_non dps_nil)) (da_cons de_dic0 (da_cons de_dic0 (da_cons de_dic0 (da_cons (dv 4) da_nil)))))) (dg_sub hu (de_sub hu (dv 0) de_str) (dv 2)))) dss_nil)
      (dss_one (ds_ret (dv 3))))))) dss_nil)
      (dss_cons (ds_if (dt_not (dt_val (de_call (DCal.mono C__law_has (by decide)) hr hgd (takes_of rfl rfl rfl rfl) (da_cons (de_sub hu (dv 0) de_str) (da_cons (dv 2) da_nil))))) (dss_one (ds_ret de_str)) dss_nil)
      (dss_cons (ds_expr (de_dpop1 (de_sub hu (dv 0) de_str) (dv 2)))
      (dss_one (ds_ret de_str)))))), ?_⟩
  intro ds w Q h
  obtain ⟨b, l, S, cmd, rfl, hb, g, hc, hl, hq⟩ := h
  cases cmd with
  | create n r rs =>
    obtain ⟨hn, hr2, hrs⟩ := hc
    have hq : Q (.str (errT (createTo S n r rs))) (w.put b (.dic (mK progD (booksOf (createTo S n r rs).st)))) := hq
    unfold createTo at hq
    refine ⟨_, rfl, ?_⟩
    refine ⟨_, rfl, ?_⟩
    refine ⟨_, _, rfl, rfl, ?_⟩
    refine ⟨n, b, _, keysN (booksOf S), rfl, pl_plain hn.ar.pl, hb, mK_keys progD _, ?_⟩
    rw [books_keys]
    dsimp only
    generalize hE : List.set _ 3 _ = E
    have eE : [some (D.dic [(.inr "books", .ref b), (.inr "log", .ref l)]), some (cmdD (.create n r rs)), some n, some (.str (errW (nameTo n (keysN S.en)))), none, none] = E := hE
    subst eE
    clear hE
    generalize hS0 : W.as _ _ = S0
    have eS0 : w = S0 := hS0
    subst eS0
    clear hS0
    refine seq_join (fun env w2 => env = [some (D.dic [(.inr "books", .ref b), (.inr "log", .ref l)]), some (cmdD (.create n r rs)), some n, some (.str (errW (nameTo n (keysN S.en)))), some (wsD rs), none] ∧ w2 = w) ?_ fun N hN => ?_
    rotate_left
    · have ht := hrs.ty
      cases rs with
      | lst xs => exact ⟨_, rfl, sz_nat 2, _, _, _, rfl, rfl, rfl, _, rfl, hN _ _ ⟨rfl, rfl⟩⟩
      | tup xs => exact ⟨_, rfl, sz_nat 2, _, _, _, rfl, rfl, rfl, _, rfl, hN _ _ ⟨rfl, rfl⟩⟩
      | non => exact ⟨_, rfl, sz_nat 2, _, _, _, rfl, rfl, rfl, sz_nat 1, hN _ _ ⟨rfl, rfl⟩⟩
      | bl _ => exact ⟨_, rfl, sz_nat 2, _, _, _, rfl, rfl, rfl, sz_nat 1, hN _ _ ⟨rfl, rfl⟩⟩
      | int _ => exact ⟨_, rfl, sz_nat 2, _, _, _, rfl, rfl, rfl, sz_nat 1, hN _ _ ⟨rfl, rfl⟩⟩
      | str _ => exact ⟨_, rfl, sz_nat 2, _, _, _, rfl, rfl, rfl, sz_nat 1, hN _ _ ⟨rfl, rfl⟩⟩
      | dic _ => exact ⟨_, rfl, sz_nat 2, _, _, _, rfl, rfl, rfl, sz_nat 1, hN _ _ ⟨rfl, rfl⟩⟩
      | _ => cases ht
    rintro env w ⟨rfl, rfl⟩
    cases hn2 : nameTo n (keysN S.en) with
    | some C =>
      rw [hn2] at hq
      have hq : Q (.str (titleC C)) (w.put b (.dic (mK progD (booksOf S)))) := hq
      rw [W.put_self hb] at hq
      rcases nameTo_err hn2 with rfl | rfl
      · exact hq
      · exact hq
    | none =>
      rw [hn2] at hq
      have hp2 := pl_seq hrs.ar
      obtain ⟨xs, hxs, hx⟩ : ∃ xs, seqD2 (wsD rs) = xs ∧ (wsD rs = .lst xs ∨ wsD rs = .tup xs) := by
        cases rs with
        | lst xs => exact ⟨xs, rfl, .inl rfl⟩
        | tup xs => exact ⟨xs, rfl, .inr rfl⟩
        | _ => exact ⟨_, rfl, .inl rfl⟩
      have haw := all_words r rs
      rw [hxs] at haw hp2
      have hpr := hr2.ar.pl
      refine seq_join (fun env w2 => env = [some (D.dic [(.inr "books", .ref b), (.inr "log", .ref l)]), some (cmdD (.create n r rs)), some n, some (.str (if (isWord r && isWords rs) = true then "" else "program")), some (wsD rs), none] ∧ w2 = w) ?_ fun N hN => ?_
      rotate_left
      · refine ⟨_, rfl, sz_nat 1, ?_⟩
        rcases hx with hx | hx
        · rw [hx] at hN ⊢
          refine ⟨by show 1 + xs.length ≤ sizeLine; exact le_sz (by omega), ?_⟩
          refine lc_map (items := [r] ++ xs) (fun x => .bl (isWord x)) (by rw [List.length_append]; exact le_sz (by show 1 + xs.length ≤ _; omega)) (fun x hx R hR => ?_) ?_
          · refine ⟨?_, hR⟩
            rcases List.mem_append.mp hx with hx | hx
            · rw [List.mem_singleton.mp hx]; exact pl_plain hpr
            · exact pl_plain (hp2.1 x hx)
          refine all_of (bls_map isWord ([r] ++ xs)) ?_
          have haw2 : (([r] ++ xs).map isWord).all id = (isWord r && isWords rs) := by rw [List.all_map]; exact haw
          rw [haw2]
          generalize (isWord r && isWords rs) = ok at hN ⊢
          cases ok with
          | true => exact hN _ _ ⟨rfl, rfl⟩
          | false => exact hN _ _ ⟨rfl, rfl⟩
        · rw [hx] at hN ⊢
          refine ⟨by show 1 + xs.length ≤ sizeLine; exact le_sz (by omega), ?_⟩
          refine lc_map (items := [r] ++ xs) (fun x => .bl (isWord x)) (by rw [List.length_append]; exact le_sz (by show 1 + xs.length ≤ _; omega)) (fun x hx R hR => ?_) ?_
          · refine ⟨?_, hR⟩
            rcases List.mem_append.mp hx with hx | hx
            · rw [List.mem_singleton.mp hx]; exact pl_plain hpr
            · exact pl_plain (hp2.1 x hx)
          refine all_of (bls_map isWord ([r] ++ xs)) ?_
          have haw2 : (([r] ++ xs).map isWord).all id = (isWord r && isWords rs) := by rw [List.all_map]; exact haw
          rw [haw2]
          generalize (isWord r && isWords rs) = ok at hN ⊢
          cases ok with
          | true => exact hN _ _ ⟨rfl, rfl⟩
          | false => exact hN _ _ ⟨rfl, rfl⟩
      rintro env w ⟨rfl, rfl⟩
      have hb1 := newP_bool r rs
      cases hp : newP r rs with
      | none =>
        rw [hp] at hq hb1
        have hb1 : false = (isWord r && isWords rs) := hb1
        rw [← hb1]
        have hq : Q (.str "program") (w.put b (.dic (mK progD (booksOf S)))) := hq
        rw [W.put_self hb] at hq
        exact hq
      | some P =>
        rw [hp] at hq hb1
        have hb1 : true = (isWord r && isWords rs) := hb1
        rw [← hb1]
        obtain ⟨t, ws, rfl, oP, hws, rfl⟩ := newP_some hrs.ar hp
        obtain ⟨s, rfl, hs⟩ := nameTo_none hn2
        have hwd : wsD rs = rs := by rcases hws with rfl | rfl <;> rfl
        rw [hwd]
        rw [← books_keys] at hs
        refine ⟨_, rfl, _, rfl, Nat.le_of_ble_eq_true rfl, disp_new (by simp) ?_⟩
        refine fun x ix hx => ⟨x, ix, ⟨[(t, none)], [], [], [], ws⟩, rs, rfl, oP, hws, W.put_at, rfl, _, W.put_at, ?_⟩
        rw [mk_st hx]
        clear hx
        refine ⟨_, _, rfl, rfl, ?_⟩
        refine Or.inr ⟨_, .inr s, hb, rfl, ?_, ?_⟩
        · rw [len_mK]
          show (S.en.map _).length < _
          rw [List.length_map]
          exact lt_sz (by omega)
        · have e1 := putD_mK progD (booksOf S) s (sortP ⟨[(t, none)], [], [], [], ws⟩)
          rw [putN_new hs] at e1
          show Q _ (w.put b (.dic (putD (mK progD (booksOf S)) (.inr s) (progD (sortP ⟨[(t, none)], [], [], [], ws⟩)))))
          rw [e1]
          have e2 : booksOf { S with en := S.en ++ [(strD (.str s), ⟨sortP ⟨[(t, none)], [], [], [], ws⟩, [], 0⟩)] } = booksOf S ++ [(s, sortP ⟨[(t, none)], [], [], [], ws⟩)] := by
            unfold booksOf
            rw [List.map_append]
            rfl
          have hq : Q (.str "") (w.put b (.dic (mK progD (booksOf { S with en := S.en ++ [(strD (.str s), ⟨sortP ⟨[(t, none)], [], [], [], ws⟩, [], 0⟩)] })))) := hq
          rw [e2] at hq
          exact hq
  | remove n =>
    have hc : Odd n := hc
    have hq : Q (.str (errT (removeTo S n))) (w.put b (.dic (mK progD (booksOf (removeTo S n).st)))) := hq
    unfold removeTo at hq
    refine ⟨_, rfl, ?_⟩
    refine ⟨_, rfl, ?_⟩
    refine ⟨_, _, rfl, rfl, ?_⟩
    refine ⟨n, b, _, keysN (booksOf S), rfl, hc.ty, hb, mK_keys progD _, ?_⟩
    rw [books_keys]
    cases hn : hasN n (keysN S.en) with
    | false =>
      rw [hn, if_neg (by decide)] at hq
      have hq : Q (.str "unknown") (w.put b (.dic (mK progD (booksOf S)))) := hq
      rw [W.put_self hb] at hq
      exact hq
    | true =>
      rw [hn, if_pos rfl] at hq
      have hq : Q (.str "") (w.put b (.dic (mK progD (booksOf { S with en := outT S.en (strD n) })))) := hq
      rw [books_out] at hq
      cases n with
      | str s =>
        have hk : s ∈ keysN S.en := of_decide_eq_true hn
        rw [← books_keys] at hk
        obtain ⟨P, hP⟩ := lk_some hk
        dsimp only
        refine ⟨_, _, rfl, rfl, ⟨_, hb⟩, ?_⟩
        refine ⟨_, .inr s, progD P, hb, rfl, by rw [valD_mK, hP]; rfl, ?_⟩
        rw [drop_mK]
        exact hq
      | _ => cases hn
abbrev sp__law_next : DSp := spNextU
theorem ok__law_next (T : Tx K mg base tp) (F : FnAt K mg "_law_next" s__law_next ["_law_pen_here"])  : DCal P w K mg base 1 "_law_next" 1 sp__law_next := by
  obtain ⟨f, fd, F, hm, b⟩ := F.ex
  refine ⟨f, fd, _, dfn F sc__law_next (by intro ds w Q h; first | exact h.elim | (unfold sp__law_next spNextU at h; first | (obtain ⟨rfl, _⟩ := h; rfl) | (obtain ⟨_, rfl, _⟩ := h; rfl) | (obtain ⟨_, _, rfl, _⟩ := h; rfl) | (obtain ⟨_, _, _, rfl, _⟩ := h; rfl) | (obtain ⟨_, _, _, _, rfl, _⟩ := h; rfl) | (obtain ⟨_, _, _, _, _, rfl, _⟩ := h; rfl) | (obtain ⟨_, _, _, _, _, _, rfl, _⟩ := h; rfl) | (obtain ⟨_, _, _, _, _, _, _, rfl, _⟩ := h; rfl) | (obtain ⟨_, _, _, _, _, _, _, _, rfl, _⟩ := h; rfl) | (split at h <;> first | rfl | exact h.elim))) ?_, hm, F.kp, b, rfl⟩
  intro cdv A outer s H E hr hgd
  have hu := hu_of hr
  have nd := sc__law_next.nd
  refine ⟨_, (dss_cons (ds_set (i := 1) nd (de_sub hu (dv 0) de_int))
      (dss_cons (ds_asg (de_op od_add (dv 1) de_int) (dg_sub hu (dv 0) de_int))
      (dss_cons (ds_set (i := 2) nd (de_op od_add (de_op od_mul de_int (dv 1)) de_int))
      (dss_cons (ds_if (dt_cmp od_gt (de_callB cd_len T.b_len (da_cons (de_sub hu (dv 0) de_int) da_nil)) de_int) (dss_one (ds_set (i := 2) nd (de_sub hu (de_sub hu (dv 0) de_int) (de_op od_mod (dv 1) (de_callB cd_len T.b_len (da_cons (de_sub hu (dv 0) de_int) da_nil)))))) dss_nil)
      (dss_cons (ds_if (dt_w (dw_and (dt_cmp od_lt (dv 1) (de_callB cd_len T.b_len (da_cons (de_sub hu (dv 0) de_int) da_nil))) (dw_and1 (dt_cmp od_ge (dv 2) (de_op od_pow de_int de_int))))) (dss_one (ds_ret (dv 2))) dss_nil)
      (dss_cons (ds_set (i := 3) nd (de_op od_mod (de_op od_pow (de_op od_add (de_op od_add (de_op od_mul (de_op od_mod (dv 2) de_int) (de_op od_add (dv 1) de_int)) (de_op od_mul de_int (dv 1))) de_int) de_int) de_int))
      (dss_cons (ds_set (i := 4) nd (de_op od_mod (de_op od_pow (de_op od_add (de_op od_add (de_op od_mul (dv 3) (de_op od_add (dv 1) de_int)) (de_op od_mod (dv 2) de_int)) de_int) de_int) de_int))
      (dss_cons (ds_set (i := 5) nd (de_op od_mod (de_op od_add (de_op od_add (de_op od_mul (dv 4) (dv 4)) (dv 3)) (de_op od_mul de_int (dv 1))) de_int))
      (dss_one (ds_ret (de_op od_add (de_op od_mul (de_op od_add (de_op od_mul (dv 5) de_int) (dv 4)) de_int) (dv 3)))))))))))), ?_⟩
  intro ds w Q h
  unfold sp__law_next spNextU at h
  split at h
  · rename_i p
    obtain ⟨cs, ns, i, r, hp, hi, hl, h0, h1, hr0, kk⟩ := h
    refine Or.inl ⟨_, 1, .int i, hp, rfl, rfl, ?_⟩
    refine Or.inl ⟨_, 1, 1, hp, rfl, rfl, ?_⟩
    have hp1 : (w.put p (penL cs (i + 1) r)).m p = some (penL cs (i + 1) r) := W.put_at
    have fin : ∀ v : Int, 0 ≤ v → Q (.int v) (w.put p (penL cs (i + 1) r)) := fun v hv => kk v (i + 1) hv (by omega) (by omega)
    refine ⟨cmul_l, ?_⟩
    refine Or.inl ⟨_, 0, .lst cs, hp1, rfl, rfl, ?_⟩
    refine ifd (fun c1 => ?g1) (fun c1 => ?g2)
    case' g1 =>
      refine Or.inl ⟨_, 0, .lst cs, hp1, rfl, rfl, ?_⟩
      refine Or.inl ⟨_, 0, .lst cs, hp1, rfl, rfl, ?_⟩
      have m := mod_b i cs.length c1
      obtain ⟨d, e1, e2⟩ := atI_mem (xs := cs) m.1 m.2
      obtain ⟨c, rfl⟩ := ints_mem hi e2
      refine ⟨c1, _, e1, ?_⟩
    case' g2 => generalize 31 * i + 17 = c
    all_goals
      refine Or.inl ⟨_, 0, .lst cs, hp1, rfl, rfl, ?_⟩
      refine ifd (fun c2 => ?_) (fun c2 => ?_)
      · refine ⟨⟨by decide, by decide, by decide⟩, ?_⟩
        refine ifd (fun c3 => ?_) (fun c3 => ?_)
        · exact fin c (Int.le_trans (by decide) c3)
        · exact ⟨by decide, cmul_mod, cmul_l, cp1 h0 h1, by decide, cmul_mod, by decide, cp2 h0 h1, by decide, cmul_mod, cmul_l, by decide, cmul_mod, .inr ⟨by decide, by decide⟩, fin _ nn_next⟩
      · exact ⟨by decide, cmul_mod, cmul_l, cp1 h0 h1, by decide, cmul_mod, by decide, cp2 h0 h1, by decide, cmul_mod, cmul_l, by decide, cmul_mod, .inr ⟨by decide, by decide⟩, fin _ nn_next⟩
  · exact h.elim
abbrev sp__law_draw : DSp := spDraw
theorem oku__law_draw (T : Tx K mg base tp) (F : FnAt K mg "_law_draw" s__law_draw ["_law_pen_here", "_law_below"]) (C__law_next : DCal P w K mg base 1 "_law_next" 1 sp__law_next) : DCal P w K mg base 2 "_law_draw" 2 spDrawU := by
  obtain ⟨f, fd, F, hm, b⟩ := F.ex
  refine ⟨f, fd, _, dfn F sc__law_draw (by intro ds w Q h; first | exact h.elim | (unfold spDrawU at h; first | (obtain ⟨rfl, _⟩ := h; rfl) | (obtain ⟨_, rfl, _⟩ := h; rfl) | (obtain ⟨_, _, rfl, _⟩ := h; rfl) | (obtain ⟨_, _, _, rfl, _⟩ := h; rfl) | (obtain ⟨_, _, _, _, rfl, _⟩ := h; rfl) | (obtain ⟨_, _, _, _, _, rfl, _⟩ := h; rfl) | (obtain ⟨_, _, _, _, _, _, rfl, _⟩ := h; rfl) | (obtain ⟨_, _, _, _, _, _, _, rfl, _⟩ := h; rfl) | (obtain ⟨_, _, _, _, _, _, _, _, rfl, _⟩ := h; rfl) | (split at h <;> first | rfl | exact h.elim))) ?_, hm, F.kp, b, rfl⟩
  intro cdv A outer s H E hr hgd
  have hu := hu_of hr
  have nd := sc__law_draw.nd
  refine ⟨_, (dss_cons (ds_if (dt_cmp od_lt (de_sub hu (dv 0) de_int) (dv 1)) (dss_one (ds_asg (de_call (DCal.mono C__law_next (by decide)) hr hgd (takes_of rfl rfl rfl rfl) (da_cons (dv 0) da_nil)) (dg_sub hu (dv 0) de_int))) dss_nil)
      (dss_cons (ds_set (i := 2) nd (de_op od_mod (de_sub hu (dv 0) de_int) (dv 1)))
      (dss_cons (ds_asg (de_op od_fdiv (de_sub hu (dv 0) de_int) (dv 1)) (dg_sub hu (dv 0) de_int))
      (dss_one (ds_ret (dv 2)))))), ?_⟩
  intro ds w Q h
  unfold spDrawU at h
  split at h
  · rename_i p b
    obtain ⟨cs, ns, i, r, hp, hi, hl, h0, h1, hr0, hb0, hb1, kk⟩ := h
    refine Or.inl ⟨_, 2, .int r, hp, rfl, rfl, ?_⟩
    refine ifd (fun c1 => ?_) (fun c1 => ?_)
    · refine ⟨cs, ns, i, r, hp, hi, hl, h0, h1, hr0, fun v i' hv hi0 hi1 => ?_⟩
      have hp1 : (w.put p (penL cs i' r)).m p = some (penL cs i' r) := W.put_at
      refine Or.inl ⟨_, 2, 2, hp1, rfl, rfl, ?_⟩
      have hp2 : ((w.put p (penL cs i' r)).put p (penL cs i' v)).m p = some (penL cs i' v) := W.put_at
      refine Or.inl ⟨_, 2, .int v, hp2, rfl, rfl, ?_⟩
      have m := mod_b v b hb0
      refine ⟨hb0, ?_⟩
      refine Or.inl ⟨_, 2, .int v, hp2, rfl, rfl, ?_⟩
      refine ⟨⟨hb0, hb1⟩, ?_⟩
      refine Or.inl ⟨_, 2, 2, hp2, rfl, rfl, ?_⟩
      have z := kk (v % b) i' (v / b) m.1 m.2 hi0 hi1 (Int.ediv_nonneg hv (by omega))
      have e : ((w.put p (penL cs i' r)).put p (penL cs i' v)).put p (penL cs i' (v / b)) = w.put p (penL cs i' (v / b)) := by
        rw [W.put_put, W.put_put]
      rw [← e] at z
      exact z
    · refine Or.inl ⟨_, 2, .int r, hp, rfl, rfl, ?_⟩
      have m := mod_b r b hb0
      refine ⟨hb0, ?_⟩
      refine Or.inl ⟨_, 2, .int r, hp, rfl, rfl, ?_⟩
      refine ⟨⟨hb0, hb1⟩, ?_⟩
      refine Or.inl ⟨_, 2, 2, hp, rfl, rfl, ?_⟩
      exact kk (r % b) i (r / b) m.1 m.2 h0 (by omega) (Int.ediv_nonneg hr0 (by omega))
  · exact h.elim
theorem ok__law_draw (T : Tx K mg base tp) (F : FnAt K mg "_law_draw" s__law_draw ["_law_pen_here", "_law_below"]) (C__law_next : DCal P w K mg base 1 "_law_next" 1 sp__law_next) : DCal P w K mg base 2 "_law_draw" 2 sp__law_draw := (oku__law_draw T F C__law_next).imp fun _ _ _ _ => draw_pack
def sp__law_command : DSp := fun ds w Q => ds = [.pen] ∧ w.n + 12 < 2 ^ 31 ∧ ∀ cmd j, CmdOk cmd → NamOk cmd → j ≤ 10 → Q (cmdD cmd) (w.tick j)
theorem ok__law_command (T : Tx K mg base tp) (F : FnAt K mg "_law_command" s__law_command ["_law_pen_here"]) (C__law_draw : DCal P w K mg base 2 "_law_draw" 2 sp__law_draw) : DCal P w K mg base 3 "_law_command" 1 sp__law_command := by
  obtain ⟨f, fd, F, hm, b⟩ := F.ex
  refine ⟨f, fd, _, dfn F sc__law_command (by intro ds w Q h; first | exact h.elim | (unfold sp__law_command at h; first | (obtain ⟨rfl, _⟩ := h; rfl) | (obtain ⟨_, rfl, _⟩ := h; rfl) | (obtain ⟨_, _, rfl, _⟩ := h; rfl) | (obtain ⟨_, _, _, rfl, _⟩ := h; rfl) | (obtain ⟨_, _, _, _, rfl, _⟩ := h; rfl) | (obtain ⟨_, _, _, _, _, rfl, _⟩ := h; rfl) | (obtain ⟨_, _, _, _, _, _, rfl, _⟩ := h; rfl) | (obtain ⟨_, _, _, _, _, _, _, rfl, _⟩ := h; rfl) | (obtain ⟨_, _, _, _, _, _, _, _, rfl, _⟩ := h; rfl) | (split at h <;> first | rfl | exact h.elim))) ?_, hm, F.kp, b, rfl⟩
  intro cdv A outer s H E hr hgd
  have hu := hu_of hr
  have nd := sc__law_command.nd
  refine ⟨_, (dss_cons (ds_set (i := 1) nd (de_sub hu (de_lst (da_cons de_str (da_cons de_str (da_cons de_str (da_cons de_str (da_cons de_str da_nil)))))) (de_call (DCal.mono C__law_draw (by decide)) hr hgd (takes_of rfl rfl rfl rfl) (da_cons (dv 0) (da_cons de_int da_nil)))))
      (dss_cons (ds_set (i := 2) nd (de_lst (da_cons de_str (da_cons de_str (da_cons de_non (da_cons de_int (da_cons (de_tup (da_cons de_str da_nil)) (da_cons de_str (da_cons (de_lst (da_cons de_str da_nil)) (da_cons de_dic0 (da_cons de_str (da_cons de_bl (da_cons de_str (da_cons de_str (da_cons de_str (da_cons de_str da_nil))))))))))))))))
      (dss_cons (ds_if (dt_cmp (od_eq hr.units) (de_call (DCal.mono C__law_draw (by decide)) hr hgd (takes_of rfl rfl rfl rfl) (da_cons (dv 0) (da_cons de_int da_nil))) de_int) (dss_one (ds_set (i := 1) nd (de_sub hu (dv 2) (de_call (DCal.mono C__law_draw (by decide)) hr hgd (takes_of rfl rfl rfl rfl) (da_cons (dv 0) (da_cons de_int da_nil)))))) dss_nil)
      (dss_cons (ds_if (dt_cmp (od_eq hr.units) (de_call (DCal.mono C__law_draw (by decide)) hr hgd (takes_of rfl rfl rfl rfl) (da_cons (dv 0) (da_cons de_int da_nil))) de_int) (dss_one (ds_ret (de_tup (da_cons de_str (da_cons (dv 1) da_nil))))) dss_nil)
      (dss_cons (ds_set (i := 3) nd (de_sub hu (de_lst (da_cons de_str (da_cons de_str (da_cons de_str da_nil)))) (de_call (DCal.mono C__law_draw (by decide)) hr hgd (takes_of rfl rfl rfl rfl) (da_cons (dv 0) (da_cons de_int da_nil)))))
      (dss_cons (ds_set (i := 4) nd (de_sub hu (de_lst (da_cons (de_lst da_nil) (da_cons (de_lst (da_cons de_str da_nil)) (da_cons (de_tup (da_cons de_str (da_cons de_str da_nil))) (da_cons (de_lst (da_cons de_str (da_cons de_str da_nil))) (da_cons (de_tup da_nil) da_nil)))))) (de_call (DCal.mono C__law_draw (by decide)) hr hgd (takes_of rfl rfl rfl rfl) (da_cons (dv 0) (da_cons de_int da_nil)))))
      (dss_cons (ds_if (dt_cmp (od_eq hr.units) (de_call (DCal.mono C__law_draw (by decide)) hr hgd (takes_of rfl rfl rfl rfl) (da_cons (dv 0) (da_cons de_int da_nil))) de_int) (dss_one (ds_set (i := 3) nd (de_sub hu (dv 2) (de_call (DCal.mono C__law_draw (by decide)) hr hgd (takes_of rfl rfl rfl rfl) (da_cons (dv 0) (da_cons de_int da_nil)))))) dss_nil)
      (dss_cons (ds_if (dt_cmp (od_eq hr.units) (de_call (DCal.mono C__law_draw (by decide)) hr hgd (takes_of rfl rfl rfl rfl) (da_cons (dv 0) (da_cons de_int da_nil))) de_int) (dss_one (ds_set (i := 4) nd (de_sub hu (de_lst (da_cons de_non (da_cons de_str (da_cons de_dic0 (da_cons (de_lst (da_cons de_str da_nil)) (da_cons (de_lst (da_cons de_str (da_cons de_non da_nil))) (da_cons (de_tup (da_cons (de_lst (da_cons de_str da_nil)) da_nil)) (da_cons (de_lst (da_cons de_str (da_cons de_str da_nil))) (da_cons de_int (da_cons (de_disp finD_ok (dps_cons de_str de_int dps_nil)) da_nil)))))))))) (de_call (DCal.mono C__law_draw (by decide)) hr hgd (takes_of rfl rfl rfl rfl) (da_cons (dv 0) (da_cons de_int da_nil)))))) dss_nil)
      (dss_one (ds_ret (de_tup (da_cons de_str (da_cons (dv 1) (da_cons (dv 3) (da_cons (dv 4) da_nil))))))))))))))), ?_⟩
  intro ds w Q h
  obtain ⟨rfl, hn, hq⟩ := h
  refine ⟨sz_nat 5, by decide, by decide, by show w.n < 2 ^ 31; omega, fun e e0 e1 => ?_⟩
  obtain ⟨d, hd, ed⟩ := at_ex (xs := nam59) e0 e1
  refine ⟨d, ed, ?_⟩
  refine ⟨sz_nat 1, sz_nat 1, sz_nat 14, ?_⟩
  dsimp only
  generalize hE : List.set _ 2 _ = E
  have eE : [some .pen, some d, some (.lst odd59), none, none] = E := hE
  subst eE
  clear hE
  generalize hS0 : W.as _ _ = S0
  obtain rfl : S0 = w.tick 1 := by rw [← hS0]; exact tick_eq rfl
  clear hS0
  refine seq_join (fun env w2 => ∃ (a : D) (j : Nat), Odd a ∧ a ∈ odd59 ++ nam59 ∧ j ≤ 3 ∧ env = [some .pen, some a, some (.lst odd59), none, none] ∧ w2 = w.tick j) ?_ fun N hN => ?_
  rotate_left
  · refine ⟨by decide, by decide, by show w.n + 1 < 2 ^ 31; omega, fun e e0 e1 => ?_⟩
    refine ify (b := decide (e = 0)) (fun c => ?_) (fun c => ?_)
    · refine ⟨by decide, by decide, by show w.n + 2 < 2 ^ 31; omega, fun e e0 e1 => ?_⟩
      obtain ⟨a, ha, ea⟩ := at_ex (xs := odd59) e0 e1
      exact ⟨a, ea, hN _ _ ⟨a, 3, odd_in (by simp only [List.mem_append, ha, true_or]), List.mem_append_left _ ha, by omega, rfl, tick_eq rfl⟩⟩
    · exact hN _ _ ⟨d, 2, odd_in (by simp only [List.mem_append, hd, true_or, or_true]), List.mem_append_right _ hd, by omega, rfl, tick_eq rfl⟩
  rintro env w2 ⟨a, j, oa, han, hj, rfl, rfl⟩
  refine ⟨by decide, by decide, by show w.n + j < 2 ^ 31; omega, fun e e0 e1 => ?_⟩
  refine ify (b := decide (e = 0)) (fun c => ?_) (fun c => ?_)
  · refine ⟨sz_nat 2, ?_⟩
    have q := hq (.remove a) (j + 1) oa trivial (by omega)
    exact q
  refine ⟨sz_nat 3, by decide, by decide, by show w.n + j + 1 < 2 ^ 31; omega, fun e e0 e1 => ?_⟩
  obtain ⟨b, hb, eb⟩ := at_ex (xs := rot59) e0 e1
  refine ⟨b, eb, ?_⟩
  refine ⟨sz_nat 0, sz_nat 1, sz_nat 2, sz_nat 2, sz_nat 0, sz_nat 5, by decide, by decide, by show w.n + j + 2 < 2 ^ 31; omega, fun e e0 e1 => ?_⟩
  obtain ⟨c1, hc, ec⟩ := at_ex (xs := wds59) e0 e1
  refine ⟨c1, ec, ?_⟩
  dsimp only
  generalize hE : List.set _ 4 _ = E
  have eE : [some .pen, some a, some (.lst odd59), some b, some c1] = E := hE
  subst eE
  clear hE
  generalize hS0 : W.as _ _ = S0
  obtain rfl : S0 = w.tick (j + 3) := by rw [← hS0]; exact tick_eq (by show w.n + j + 1 + 1 + 1 = _; omega)
  clear hS0
  refine seq_join (fun env w2 => ∃ (a2 : D) (j2 : Nat), Odd a2 ∧ j2 ≤ j + 5 ∧ env = [some .pen, some a, some (.lst odd59), some a2, some c1] ∧ w2 = w.tick j2) ?_ fun N hN => ?_
  rotate_left
  · refine ⟨by decide, by decide, by show w.n + (j + 3) < 2 ^ 31; omega, fun e e0 e1 => ?_⟩
    refine ify (b := decide (e = 0)) (fun c => ?_) (fun c => ?_)
    · refine ⟨by decide, by decide, by show w.n + (j + 3) + 1 < 2 ^ 31; omega, fun e e0 e1 => ?_⟩
      obtain ⟨a2, ha, ea⟩ := at_ex (xs := odd59) e0 e1
      exact ⟨a2, ea, hN _ _ ⟨a2, j + 5, odd_in (by simp only [List.mem_append, ha, true_or]), by omega, rfl, tick_eq (by show w.n + (j + 3) + 1 + 1 = _; omega)⟩⟩
    · exact hN _ _ ⟨b, j + 4, odd_in (by simp only [List.mem_append, hb, true_or, or_true]), by omega, rfl, tick_eq (by show w.n + (j + 3) + 1 = _; omega)⟩
  rintro env w2 ⟨a2, j2, oa2, hj2, rfl, rfl⟩
  refine seq_join (fun env w2 => ∃ (a3 : D) (j3 : Nat), Odd a3 ∧ j3 ≤ j2 + 2 ∧ env = [some .pen, some a, some (.lst odd59), some a2, some a3] ∧ w2 = w.tick j3) ?_ fun N hN => ?_
  rotate_left
  · refine ⟨by decide, by decide, by show w.n + j2 < 2 ^ 31; omega, fun e e0 e1 => ?_⟩
    refine ify (b := decide (e = 0)) (fun c => ?_) (fun c => ?_)
    · refine ⟨sz_nat 1, sz_nat 2, sz_nat 1, sz_nat 1, sz_nat 2, _, rfl, Nat.le_of_ble_eq_true rfl, disp_new (by simp) ?_⟩
      refine ⟨sz_nat 9, by decide, by decide, by show w.n + j2 + 1 < 2 ^ 31; omega, fun e e0 e1 => ?_⟩
      obtain ⟨a3, ha, ea⟩ := at_ex (xs := wdo59) e0 e1
      exact ⟨a3, ea, hN _ _ ⟨a3, j2 + 2, odd_in (by simp only [List.mem_append, ha, true_or, or_true]), by omega, rfl, tick_eq (by show w.n + j2 + 1 + 1 = _; omega)⟩⟩
    · exact hN _ _ ⟨c1, j2 + 1, odd_in (by simp only [List.mem_append, hc, true_or, or_true]), by omega, rfl, tick_eq (by show w.n + j2 + 1 = _; omega)⟩
  rintro env w2 ⟨a3, j3, oa3, hj3, rfl, rfl⟩
  refine ⟨sz_nat 4, ?_⟩
  exact hq (.create a a2 a3) j3 ⟨oa, oa2, oa3⟩ han (by omega)
abbrev sp__law_pen : DSp := spPen
theorem ok__law_pen (T : Tx K mg base tp) (F : FnAt K mg "_law_pen" s__law_pen ["_law_script"])  : DCal P w K mg base 1 "_law_pen" 1 sp__law_pen := by
  obtain ⟨f, fd, F, hm, b⟩ := F.ex
  refine ⟨f, fd, _, dfn F sc__law_pen (by intro ds w Q h; first | exact h.elim | (unfold sp__law_pen spPen at h; first | (obtain ⟨rfl, _⟩ := h; rfl) | (obtain ⟨_, rfl, _⟩ := h; rfl) | (obtain ⟨_, _, rfl, _⟩ := h; rfl) | (obtain ⟨_, _, _, rfl, _⟩ := h; rfl) | (obtain ⟨_, _, _, _, rfl, _⟩ := h; rfl) | (obtain ⟨_, _, _, _, _, rfl, _⟩ := h; rfl) | (obtain ⟨_, _, _, _, _, _, rfl, _⟩ := h; rfl) | (obtain ⟨_, _, _, _, _, _, _, rfl, _⟩ := h; rfl) | (obtain ⟨_, _, _, _, _, _, _, _, rfl, _⟩ := h; rfl) | (split at h <;> first | rfl | exact h.elim))) ?_, hm, F.kp, b, rfl⟩
  intro cdv A outer s H E hr hgd
  have hu := hu_of hr
  have nd := sc__law_pen.nd
  refine ⟨_, (dss_one (ds_ret (de_mkpen (de_lstM (da_cons (de_callTy (cd_list rfl) T.b_list (da_cons (de_slice (dv 0) do_none (do_some de_int)) da_nil)) (da_cons de_int (da_cons de_int da_nil))))))), ?_⟩
  intro ds w Q h
  unfold sp__law_pen spPen at h
  split at h
  · rename_i xs
    obtain ⟨ns, hi, hl, hn, kk⟩ := h
    refine ⟨sz_nat 3, fun p hp => ⟨_, ns.take 60, W.put_at, ?_, by rw [List.length_take]; omega, ?_⟩⟩
    · rw [cut_to (by decide)]; exact ints_take 60 hi
    · have e := W.del_put (o := MO.lst [D.lst (DL.cutD xs none (some 60)), D.int 0, D.int 0]) hp
      rw [e]
      exact kk
  · exact h.elim
abbrev sp_law (tp : Str → Addr) : DSp := spLawT ["Registry.back", "Registry.create", "Registry.mark", "Registry.remove"] tp
def rf59 : List Str := ["remove", "failed"]
def zz59 : Str := "zz"
def qS59 (k : Nat) : Str := ("q" : Str) ++ (toString (0 + (k : Int)) : String)
def top59 : Parts := sortP ⟨[("top", none)], [], [], [], []⟩
def ent59 : Ent := ⟨top59, [], 0⟩
def qE59 (k : Nat) : Str × Ent := (qS59 k, ent59)
def st59 (S : Rg) : Nat → Rg
  | 0 => S
  | i + 1 => { en := (st59 S i).en ++ [qE59 i], ms := (st59 S i).ms ++ [(qS59 i, (st59 S i).en ++ [qE59 i])], ev := (((st59 S i).ev ++ [("create" : Str)] ++ [("done" : Str)]) ++ [("mark" : Str)]) ++ [("done" : Str)] }
theorem st59_en (S : Rg) : ∀ i, (st59 S i).en = S.en ++ (List.range i).map qE59
  | 0 => (List.append_nil _).symm
  | i + 1 => by
    show (st59 S i).en ++ [qE59 i] = _
    rw [st59_en S i, List.range_succ, List.map_append, List.append_assoc]
    rfl
theorem st59_ms (S : Rg) (h : S.ms = []) : ∀ i, (st59 S i).ms = (List.range i).map fun k => (qS59 k, S.en ++ (List.range (k + 1)).map qE59)
  | 0 => h
  | i + 1 => by
    show (st59 S i).ms ++ [(qS59 i, (st59 S i).en ++ [qE59 i])] = _
    rw [st59_ms S h i, st59_en S i, List.range_succ, List.map_append]
    congr 1
    show [(qS59 i, (S.en ++ (List.range i).map qE59) ++ [qE59 i])] = [(qS59 i, S.en ++ (List.range (i + 1)).map qE59)]
    rw [List.range_succ, List.map_append, List.append_assoc]
    rfl
theorem st59_ev (S : Rg) : ∀ i, (st59 S i).ev.length = S.ev.length + 4 * i
  | 0 => rfl
  | i + 1 => by
    show ((((st59 S i).ev ++ [("create" : Str)] ++ [("done" : Str)]) ++ [("mark" : Str)]) ++ [("done" : Str)]).length = _
    rw [List.length_append, List.length_append, List.length_append, List.length_append, st59_ev S i]
    show S.ev.length + 4 * i + 1 + 1 + 1 + 1 = _
    omega
theorem st59_keys (S : Rg) (i : Nat) : keysN (st59 S i).en = keysN S.en ++ (List.range i).map qS59 := by
  rw [st59_en]
  unfold keysN
  rw [List.map_append, List.map_map]
  rfl
theorem st59_mk (S : Rg) (h : S.ms = []) (i : Nat) : keysN (st59 S i).ms = (List.range i).map qS59 := by
  rw [st59_ms S h]
  unfold keysN
  rw [List.map_map]
  rfl
theorem q_word : ∀ k, k < 30 → wordS (qS59 k) = true := by decide +kernel
theorem q_len : ∀ k : Nat, k < 30 → ("q" : Str).length + ((toString (0 + (k : Int)) : String) : Str).length ≤ 10 := by decide +kernel
theorem q_nd : ((List.range 30).map qS59).Nodup := by decide +kernel
theorem q_ndp {i : Nat} (h : i ≤ 30) : ((List.range i).map qS59).Nodup := by
  obtain ⟨k, hk⟩ : ∃ k, 30 = i + k := ⟨30 - i, by omega⟩
  have this := q_nd
  rw [hk, List.range_add, List.map_append] at this
  exact (List.nodup_append.mp this).1
theorem q_nd2 {i : Nat} (h : i < 30) : qS59 i ∉ (List.range i).map qS59 := by
  have this := q_ndp (i := i + 1) (by omega)
  rw [List.range_succ, List.map_append] at this
  intro hx
  exact (List.nodup_append.mp this).2.2 _ hx _ (List.mem_singleton_self _) rfl
theorem q_zero : qS59 0 = "q0" := by decide +kernel
theorem q_back {S : Rg} {X : Nat → Tab Ent} (h : S.ms = (List.range 30).map fun k => (qS59 k, X k)) : rbackTo S (.str "q0") = .ok .non { S with en := X 0 } := by
  have hr : List.range 30 = 0 :: (List.range 29).map (· + 1) := by decide
  have e : lk S.ms "q0" = some (X 0) := by
    rw [h, hr, List.map_cons, lk_cons, if_pos q_zero]
  unfold rbackTo
  rw [if_pos]
  · show CmdTo.ok .non { S with en := (lk S.ms "q0").getD [] } = _
    rw [e]
    rfl
  · show decide (_ ∈ keysN S.ms) = true
    rw [decide_eq_true_eq]
    exact lk_key e
theorem q_pl : ∀ k, k < 30 → plainD (.str (qS59 k)) = true := by decide +kernel
theorem q_no (k : Nat) (hk : k < 30) : D.str (qS59 k) ∉ nam59 := by
  have : ∀ k, k < 30 → qS59 k ∉ (["x", "xa", "abcdefg7", "lnorst", "abcdefgi"] : List Str) := by decide +kernel
  have := this k hk
  intro h
  unfold nam59 at h
  simp only [List.mem_cons, List.not_mem_nil, or_false, D.str.injEq] at h
  exact this (by simpa using h)
theorem q_create {S : Rg} {i : Nat} (hi : i < 30) (hn : qS59 i ∉ keysN S.en) : createTo S (.str (qS59 i)) (.str "top") (.lst []) = .ok .non { S with en := S.en ++ [qE59 i] } := by
  unfold createTo
  have h1 : nameTo (.str (qS59 i)) (keysN S.en) = none := by
    unfold nameTo
    dsimp only
    rw [if_pos (q_word i hi), if_neg hn]
  rw [h1]
  have h2 : newP (.str "top") (.lst []) = some top59 := by decide +kernel
  rw [h2]
  rfl
theorem q_mark {S : Rg} {i : Nat} (hi : i < 30) (hn : qS59 i ∉ keysN S.ms) : markTo S (.str (qS59 i)) = .ok .non { S with ms := S.ms ++ [(qS59 i, S.en)] } := by
  unfold markTo
  have h1 : nameTo (.str (qS59 i)) (keysN S.ms) = none := by
    unfold nameTo
    dsimp only
    rw [if_pos (q_word i hi), if_neg hn]
  rw [h1]
  rfl
theorem ok_law (T : Tx K mg base tp) (F : FnAt K mg "law" s_law ["_law_script"]) (C_Registry_get_log : DMet P w K mg base 1 "Registry" "get_log" 1 sp_Registry_get_log) (C_Registry___init__ : DMak P w K mg base 1 "Registry" 1 sp_Registry___init__) (C_Registry_get_names : DMet P w K mg base 1 "Registry" "get_names" 1 sp_Registry_get_names) (C_Registry_back : DMet P w K mg base 5 "Registry" "back" 2 (sp_Registry_back tp)) (C_Registry_mark : DMet P w K mg base 7 "Registry" "mark" 2 (sp_Registry_mark tp)) (C_Registry_create : DMet P w K mg base 10 "Registry" "create" 4 (sp_Registry_create tp)) (C__law_outcome : DCal P w K mg base 11 "_law_outcome" 2 (sp__law_outcome tp)) (C_Registry_get_log_m : DMet P w K mg base 1 "Registry" "get_log" 1 sp_Registry_get_log_m) (C_Registry_get_names_m : DMet P w K mg base 1 "Registry" "get_names" 1 sp_Registry_get_names_m) (C__law_same : DCal P w K mg base 4 "_law_same" 2 sp__law_same) (C__law_due : DCal P w K mg base 6 "_law_due" 2 sp__law_due) (C__law_command : DCal P w K mg base 3 "_law_command" 1 sp__law_command) (C__law_pen : DCal P w K mg base 1 "_law_pen" 1 sp__law_pen) : DCal P w K mg base 12 "law" 1 (sp_law tp) := by
  obtain ⟨f, fd, F, hm, b⟩ := F.ex
  refine ⟨f, fd, _, dfn F sc_law (by intro ds w Q h; obtain ⟨_, rfl, _⟩ := h; rfl) ?_, hm, F.kp, b, rfl⟩
  intro cdv A outer s H E hr hgd
  have hu := hu_of hr
  have nd := sc_law.nd
  refine ⟨_, (dss_cons (ds_set (i := 1) nd (de_call (DCal.mono C__law_pen (by decide)) hr hgd (takes_of rfl rfl rfl rfl) (da_cons (dv 0) da_nil)))
      (dss_cons (ds_par (i := 2) (j := 3) nd rfl (by decide) (da_cons (de_makeM0 (DMak.mono C_Registry___init__ (by decide)) hr hgd (takes_of rfl rfl rfl rfl)) (da_cons (de_disp finD_ok (dps_cons de_str de_dicM (dps_cons de_str (de_lstM da_nil) dps_nil))) da_nil)))
      (dss_cons (ds_for (passes_of rfl) rfl (di_range1 T.b_range (da_cons de_int da_nil)) (dg_name 4 nd) (dss_cons (ds_set (i := 5) nd (de_call (DCal.mono C__law_command (by decide)) hr hgd (takes_unl (takes_of rfl rfl rfl rfl)) (da_cons (dv 1) da_nil)))
      (dss_cons (ds_set (i := 6) nd (de_callB (cd_repr hgd hr.units) T.b_repr (da_cons (dv 5) da_nil)))
      (dss_cons (ds_set (i := 7) nd (de_call (DCal.mono C__law_due (by decide)) hr hgd (takes_unl (takes_of rfl rfl rfl rfl)) (da_cons (dv 3) (da_cons (dv 5) da_nil))))
      (dss_cons (ds_expr (de_bm PySem.F.slot_list_extend PySem.F.type_list_extend md_extend (de_sub hu (dv 3) de_str) (da_cons (de_lstM (da_cons (de_sub hu (dv 5) de_int) (da_cons (de_if (dt_cmp (od_eq hr.units) (dv 7) de_str) de_str de_str) da_nil))) da_nil)))
      (dss_cons (ds_if (dt_w (dw_or (dt_cmp (od_ne hr.units) (de_callB (cd_repr hgd hr.units) T.b_repr (da_cons (de_call (DCal.mono C__law_outcome (by decide)) hr hgd (takes_unl (takes_of rfl rfl rfl rfl)) (da_cons (dv 2) (da_cons (dv 5) da_nil))) da_nil)) (de_callB (cd_repr hgd hr.units) T.b_repr (da_cons (de_tup (da_cons (dv 7) (da_cons de_non da_nil))) da_nil))) (dw_or1 (dt_cmp (od_ne hr.units) (de_callB (cd_repr hgd hr.units) T.b_repr (da_cons (dv 5) da_nil)) (dv 6))))) (dss_one (ds_ret de_bl)) dss_nil)
      (dss_cons (ds_if (dt_not (dt_val (de_lendY (de_call (DCal.mono C__law_same (by decide)) hr hgd (takes_unl (takes_of rfl rfl rfl rfl)) (da_cons (dv 2) (da_cons (dv 3) da_nil)))))) (dss_one (ds_ret de_bl)) dss_nil)
      (dss_cons (ds_expr (de_bm PySem.F.slot_list_append PySem.F.type_list_append md_append (de_meth0 (DMet.mono C_Registry_get_names_m (by decide)) hr hgd (takes_unl (takes_of rfl rfl rfl rfl)) (dv 2)) (da_cons de_str da_nil)))
      (dss_one (ds_expr (de_bm0 PySem.F.slot_list_clear PySem.F.type_list_clear md_clear (de_meth0 (DMet.mono C_Registry_get_log_m (by decide)) hr hgd (takes_unl (takes_of rfl rfl rfl rfl)) (dv 2)))))))))))))
      (dss_cons (ds_for (passes_of rfl) rfl (di_range1 T.b_range (da_cons de_int da_nil)) (dg_name 4 nd) (dss_one (ds_if (dt_cmp (od_ne hr.units) (de_call (DCal.mono C__law_outcome (by decide)) hr hgd (takes_unl (takes_of rfl rfl rfl rfl)) (da_cons (dv 2) (da_cons (de_tup (da_cons de_str (da_cons de_str da_nil))) da_nil))) (de_tup (da_cons de_str (da_cons de_non da_nil)))) (dss_one (ds_ret de_bl)) dss_nil)))
      (dss_cons (ds_if (dt_cmp (od_ne hr.units) (de_meth0 (DMet.mono C_Registry_get_log (by decide)) hr hgd (takes_of rfl rfl rfl rfl) (dv 2)) (de_op od_add (de_sub hu (dv 3) de_str) (de_op od_mul (de_lstM (da_cons de_str (da_cons de_str da_nil))) de_int))) (dss_one (ds_ret de_bl)) dss_nil)
      (dss_cons (ds_setLcG (i := 8) (own := [("_law_k", 10)]) finL_ok rfl nd (di_range1 T.b_range (da_cons de_int da_nil)) (by kernel_rfl) (fun _ _ _ _ _ => (dg_name 10 nd)) (fun _ _ _ _ _ => dts_nil) (fun _ _ _ _ _ => (de_op od_add de_str (de_callTy cd_str T.b_str (da_cons (dv 10) da_nil)))))
      (dss_cons (ds_for (passes_of rfl) rfl (di_any (dv 8)) (dg_name 9 nd) (dss_cons (ds_expr (de_meth (DMet.mono C_Registry_create (by decide)) hr hgd (takes_unl (takes_of rfl rfl rfl rfl)) (dv 2) (da_cons (dv 9) (da_cons de_str (da_cons (de_lst da_nil) da_nil)))))
      (dss_one (ds_expr (de_meth (DMet.mono C_Registry_mark (by decide)) hr hgd (takes_unl (takes_of rfl rfl rfl rfl)) (dv 2) (da_cons (dv 9) da_nil))))))
      (dss_cons (ds_if (dt_w (dw_or (dt_cmp (od_ne hr.units) (de_meth0 (DMet.mono C_Registry_get_names (by decide)) hr hgd (takes_of rfl rfl rfl rfl) (dv 2)) (de_callB (cd_sorted rfl hr.units) T.b_sorted (da_cons (de_op od_add (de_callTy (cd_list rfl) T.b_list (da_cons (de_sub hu (dv 3) de_str) da_nil)) (dv 8)) da_nil))) (dw_or1 (dt_cmp od_isnot (de_meth (DMet.mono C_Registry_back (by decide)) hr hgd (takes_of rfl rfl rfl rfl) (dv 2) (da_cons de_str da_nil)) de_non)))) (dss_one (ds_ret de_bl)) dss_nil)
      (dss_cons (ds_if (dt_cmp (od_ne hr.units) (de_meth0 (DMet.mono C_Registry_get_names (by decide)) hr hgd (takes_of rfl rfl rfl rfl) (dv 2)) (de_callB (cd_sorted rfl hr.units) T.b_sorted (da_cons (de_op od_add (de_callTy (cd_list rfl) T.b_list (da_cons (de_sub hu (dv 3) de_str) da_nil)) (de_lst (da_cons de_str da_nil))) da_nil))) (dss_one (ds_ret de_bl)) dss_nil)
      (dss_one (ds_ret (de_and (de_cmp (od_eq hr.units) (de_meth0 (DMet.mono C_Registry_get_names (by decide)) hr hgd (takes_of rfl rfl rfl rfl) (de_makeM0 (DMak.mono C_Registry___init__ (by decide)) hr hgd (takes_of rfl rfl rfl rfl))) (de_lst da_nil)) (de_one (de_cmp (od_eq hr.units) (de_meth0 (DMet.mono C_Registry_get_log (by decide)) hr hgd (takes_of rfl rfl rfl rfl) (de_makeM0 (DMak.mono C_Registry___init__ (by decide)) hr hgd (takes_of rfl rfl rfl rfl))) (de_lst da_nil))))))))))))))), ?_⟩
  intro ds w Q h
  obtain ⟨ns, rfl, hl, hn0, hT, kk⟩ := h
  refine ⟨ns, intsOf_map ns, hl, hn0, ?_⟩
  refine fun d dx hd => ?_
  refine ⟨d, dx, rfl, W.put_at, fun m1 h1 => ?_⟩
  have h1 : RgAt (delM (updM w.m d (.ins "Registry" dx [])) d) m1 d ⟨[], [], []⟩ := h1
  rw [delM_upd (show w.m d = none from hd)] at h1
  refine ⟨rfl, ?_⟩
  refine fun b hb => ⟨sz_nat 0, fun l hl2 => ?_⟩
  have hb : m1 b = none := hb
  have hl2 : updM m1 b (.dic []) l = none := hl2
  have nbl : b ≠ l := fun z => by rw [← z, updM_same] at hl2; cases hl2
  refine ⟨_, rfl, Nat.le_of_ble_eq_true rfl, disp_new (show ([.inr "books", .inr "log"] : List Key).Nodup by decide) ?_⟩
  dsimp only [dNil]
  generalize hE : List.set _ 3 _ = E
  have eE : [some (.lst (ns.map .int)), some .pen, some (.ref d), some (D.dic [(.inr "books", .ref b), (.inr "log", .ref l)]), none, none, none, none, none, none, none] = E := hE
  subst eE
  clear hE
  have I0 : Inv59 tp (updM (updM w.m b (.dic [])) l (.lst [])) (updM (updM m1 b (.dic [])) l (.lst [])) d b l ⟨[], [], []⟩ := by
    have hw : w.m b = none := h1.free hb
    have hw2 : updM w.m b (.dic []) l = none := (h1.beside (o := .dic []) hb).free hl2
    refine ⟨(h1.beside hb).beside hl2, (updM_ne nbl).trans updM_same, updM_same, fun n hn => ?_, ⟨.nil, nofun, nofun⟩, nofun, nofun⟩
    have ht : w.m (tp n) = some (lamN n) := hT n hn
    have n1 : tp n ≠ b := fun z => by rw [z, hw] at ht; cases ht
    have n2 : tp n ≠ l := fun z => by rw [z] at ht; rw [updM_ne nbl.symm, ht] at hw2; cases hw2
    rw [updM_ne n2, updM_ne n1]
    exact ht
  generalize (updM (updM w.m b (.dic [])) l (.lst []) : Mem) = m0 at I0
  generalize hS0 : (W.put _ l (.lst []) : W) = S0
  have eM : S0.m = updM (updM m1 b (.dic [])) l (.lst []) := by rw [← hS0]; rfl
  have eN : S0.n = 0 := by rw [← hS0]; exact hn0
  rw [← eM] at I0
  clear hS0 eM
  refine ⟨by decide, by decide, ?_⟩
  refine ⟨fun i env w2 => ∃ (m0 : Mem) (S : Rg) (a0 a4 a5 a6 a7 a8 a9 a10 : Option D), env = [a0, some .pen, some (.ref d), some (D.dic [(.inr "books", .ref b), (.inr "log", .ref l)]), a4, a5, a6, a7, a8, a9, a10] ∧ Inv59 tp m0 w2.m d b l S ∧ S.ms = [] ∧ S.en.length ≤ i ∧ S.ev.length = 2 * i ∧ w2.n ≤ 12 * i,
    ⟨m0, ⟨[], [], []⟩, _, _, _, _, _, _, _, _, rfl, I0, rfl, Nat.zero_le _, rfl, by omega⟩, ?_, ?_⟩
  · rintro i x env w2 hx ⟨m0, S, a0, a4, a5, a6, a7, a8, a9, a10, rfl, I, hms, hen, hev, hwn⟩
    obtain ⟨hi, rfl⟩ := rng_get hx
    have hi : i < 24 := hi
    refine ⟨rfl, by show w2.n + 12 < 2 ^ 31; omega, fun cmd j hc hcn hj => ?_⟩
    dsimp only
    generalize hE : List.set _ 5 _ = E
    have eE : [a0, some .pen, some (.ref d), some (D.dic [(.inr "books", .ref b), (.inr "log", .ref l)]), some (.int (0 + (i : Int))), some (cmdD cmd), a6, a7, a8, a9, a10] = E := hE
    subst eE
    clear hE
    generalize hS0 : W.as _ _ = S0
    have eS0 : w2.tick j = S0 := by rw [← hS0]; exact (tick_eq rfl).symm
    subst eS0
    clear hS0
    obtain ⟨p, hp1, hp2⟩ := cmd_shw hc
    obtain ⟨rest, hrest⟩ : ∃ rest, cmdD cmd = .tup (.str (cmdN cmd) :: rest) := by cases cmd <;> exact ⟨_, rfl⟩
    refine ⟨p, hp1, hp2, ?_⟩
    refine ⟨b, l, S, cmd, rfl, I.rg.keep I.hb, I.g, hc, by omega, ?_⟩
    dsimp only
    generalize hE : List.set _ 7 _ = E
    have eE : [a0, some .pen, some (.ref d), some (D.dic [(.inr "books", .ref b), (.inr "log", .ref l)]), some (.int (0 + (i : Int))), some (cmdD cmd), some (.str p.shown), some (.str (errT (cmdTo S cmd))), a8, a9, a10] = E := hE
    subst eE
    clear hE
    generalize hS0 : W.as _ _ = S0
    have eS0 : (w2.tick j).put b (.dic (mK progD (booksOf (cmdTo S cmd).st))) = S0 := hS0
    have eN0 : S0.n = w2.n + j := by rw [← eS0]; rfl
    have rg1 := I.rg.other (.dic (mK progD (booksOf (cmdTo S cmd).st))) I.hb
    have eM0 : S0.m = updM w2.m b (.dic (mK progD (booksOf (cmdTo S cmd).st))) := by rw [← eS0]; rfl
    rw [← eM0] at rg1
    clear hS0 eS0 eM0
    have nbl : b ≠ l := fun z => by have := I.hb; rw [z, I.hl] at this; cases this
    have hl1 : updM m0 b (.dic (mK progD (booksOf (cmdTo S cmd).st))) l = some (.lst (S.ev.map .str)) := (updM_ne nbl.symm).trans I.hl
    refine seq_join (fun env w3 => env = [a0, some .pen, some (.ref d), some (D.dic [(.inr "books", .ref b), (.inr "log", .ref l)]), some (.int (0 + (i : Int))), some (cmdD cmd), some (.str p.shown), some (.str (errT (cmdTo S cmd))), a8, a9, a10] ∧
      ∃ m3, RgAt m3 w3.m d S ∧ m3 b = some (.dic (mK progD (booksOf (cmdTo S cmd).st))) ∧ m3 l = some (.lst ((S.ev ++ [cmdN cmd, if errT (cmdTo S cmd) = "" then "done" else "failed"]).map .str)) ∧ (∀ n ∈ (["Registry.back", "Registry.create", "Registry.mark", "Registry.remove"] : List Str), m3 (tp n) = some (lamN n)) ∧ w3.n = w2.n + j) ?_ fun N hN => ?_
    rotate_left
    · refine ⟨_, _, rfl, rfl, ⟨_, rg1.keep hl1⟩, ?_⟩
      rw [hrest]
      refine ⟨.str (cmdN cmd), atI0 _ _, ?_⟩
      rw [← hrest]
      have ext : ∀ y : Str, ((if errT (cmdTo S cmd) = "" then ("done" : Str) else "failed") = y) → ∀ q, S0.m q = none → q ≠ l ∧ (∃ xs ys, (S0.put q (.lst [.str (cmdN cmd), .str y])).m l = some (.lst xs) ∧ (S0.put q (.lst [.str (cmdN cmd), .str y])).m q = some (.lst ys) ∧ xs.length + ys.length ≤ sizeLine ∧
          N [a0, some .pen, some (.ref d), some (D.dic [(.inr "books", .ref b), (.inr "log", .ref l)]), some (.int (0 + (i : Int))), some (cmdD cmd), some (.str p.shown), some (.str (errT (cmdTo S cmd))), a8, a9, a10] (((S0.put q (.lst [.str (cmdN cmd), .str y])).put l (.lst (xs ++ ys))).del q)) := by
        intro y hy q hq
        have nql : q ≠ l := fun z => by rw [z, rg1.keep hl1] at hq; cases hq
        refine ⟨nql, S.ev.map .str, [.str (cmdN cmd), .str y], (W.put_ne nql.symm).trans (rg1.keep hl1), W.put_at, ?_, ?_⟩
        · rw [List.length_map]
          exact le_sz (by show S.ev.length + 2 ≤ _; omega)
        · have em : (((S0.put q (.lst [.str (cmdN cmd), .str y])).put l (.lst (S.ev.map .str ++ [.str (cmdN cmd), .str y]))).del q).m = updM S0.m l (.lst ((S.ev ++ [cmdN cmd, y]).map .str)) := by
            show delM (updM (updM S0.m q _) l _) q = _
            rw [updM_comm nql, delM_upd ((updM_ne nql).trans hq), List.map_append]
            rfl
          refine hN _ _ ⟨rfl, updM (updM m0 b (.dic (mK progD (booksOf (cmdTo S cmd).st)))) l (.lst ((S.ev ++ [cmdN cmd, y]).map .str)), ?_, (updM_ne nbl).trans updM_same, ?_, fun n hn => ?_, eN0⟩
          · rw [em]
            exact rg1.other _ hl1
          · rw [updM_same, hy]
          · have ht := I.tb n hn
            have n1 : tp n ≠ b := fun z => by rw [z, I.hb] at ht; cases ht
            have n2 : tp n ≠ l := fun z => by rw [z, I.hl] at ht; cases ht
            rw [updM_ne n2, updM_ne n1]
            exact ht
      refine ify (b := decide (errT (cmdTo S cmd) = "")) (fun c => ?_) (fun c => ?_)
      · refine ⟨sz_nat 2, fun q hq => ?_⟩
        exact ext "done" (by rw [if_pos (of_decide_eq_true c)]) q hq
      · refine ⟨sz_nat 2, fun q hq => ?_⟩
        exact ext "failed" (by rw [if_neg (of_decide_eq_false c)]) q hq
    rintro env w3 ⟨rfl, m3, rg3, hb3, hl3, tb3, hn3⟩
    have es := end_st S (cmdN cmd) cmd hc I.g
    obtain ⟨g1, l1, e1, s1⟩ := cmdTo_ok I.g hc
    have nm1 := cmdTo_nam I.nm hcn
    obtain ⟨S2, hS2⟩ : ∃ S2 : Rg, S2 = { (cmdTo S cmd).st with ev := S.ev ++ [cmdN cmd, if errT (cmdTo S cmd) = "" then "done" else "failed"] } := ⟨_, rfl⟩
    rw [← hS2] at es
    have bk2 : booksOf S2 = booksOf (cmdTo S cmd).st := by rw [hS2]; rfl
    have en2 : S2.en = (cmdTo S cmd).st.en := by rw [hS2]
    have ms2 : S2.ms = [] := by rw [hS2]; exact s1.trans hms
    have ev2 : S2.ev = S.ev ++ [cmdN cmd, if errT (cmdTo S cmd) = "" then "done" else "failed"] := by rw [hS2]
    have g2 : Rg59 S2 := ⟨by rw [en2]; exact g1.nd, by rw [en2]; exact g1.gd, by rw [en2]; exact g1.wd⟩
    have evw : ∀ x ∈ S2.ev, x ∈ evs59 := fun x hx => by
      rw [ev2] at hx
      rcases List.mem_append.mp hx with hx | hx
      · exact I.ev x hx
      · simp only [List.mem_cons, List.not_mem_nil, or_false] at hx
        rcases hx with rfl | rfl
        · exact cmdN_in cmd
        · split <;> simp [evs59]
    clear hS2
    have hin := errT_in (cmdTo S cmd)
    refine ⟨m3, d, S, cmd, rfl, rg3, I.g, hc, by omega, by omega, tb3 _ (by simp), tb3 _ (by simp), fun m4 h4 => ?_⟩
    rw [es] at h4
    rw [errT_log]
    refine ⟨.tuple [.str (errT (cmdTo S cmd)), .none], rfl, err_show hin, ?_⟩
    refine ⟨sz_nat 2, .tuple [.str (errT (cmdTo S cmd)), .none], rfl, err_show hin, ?_⟩
    refine ifne (fun c => absurd rfl (of_decide_eq_false c)) (fun _ => ?_)
    refine ⟨p, hp1, hp2, ?_⟩
    refine ifne (fun c => absurd rfl (of_decide_eq_false c)) (fun _ => ?_)
    dsimp only [dNext]
    generalize hS4 : W.as _ _ = S4
    have eM4 : S4.m = m4 := by rw [← hS4]; rfl
    have eN4 : S4.n = w2.n + j := by rw [← hS4]; exact hn3
    clear hS4
    rw [← eM4] at h4
    clear eM4
    have npb : npK (mK progD (booksOf S2)) = true := npK_mKr progD np_prog _
    have sn2 : SnP S4 (D.dic [(.inr "books", .ref b), (.inr "log", .ref l)]) (stD59 S2) :=
      .td (.cons (.dic (h4.keep (by rw [bk2]; exact hb3)) (SnPK.same npb)) (.cons (.lst (h4.keep (by rw [ev2]; exact hl3)) (SnPL.same (npL_mapr D.str (fun _ => rfl) _))) .nil))
    refine ⟨_, (SnPE.nil.set 2 rfl h4.held).set 3 rfl sn2, ?_⟩
    refine ⟨S2, rfl, g2, by rw [en2]; omega, fun x hx => evs_ok (evw x hx), ?_⟩
    refine ⟨rfl, fun a s h => (by show tabM S4.m a = _; unfold tabM; rw [h]), ?_⟩
    have h4' := h4
    obtain ⟨dx4, e4, k4, v4, hm4⟩ := h4'
    refine ⟨dx4, rgF e4 k4 v4, hm4.hd, rfl, ?_⟩
    refine ⟨m3, d, S2, rfl, h4, fun q hq => ?_⟩
    have hq : S4.m q = none := hq
    refine ⟨⟨_, W.put_at⟩, _, W.put_at, ?_, ?_⟩
    · rw [List.length_map, sortT_len, len_keysN, en2]
      exact lt_sz (by omega)
    dsimp only
    generalize hS5 : (W.put _ q _ : W) = S5
    have h5 : RgAt m3 S5.m d S2 := by
      rw [← hS5]
      show RgAt m3 (updM (updM S4.m q _) q _) d S2
      rw [updM_upd]
      exact h4.junk hq _
    have eN5 : S5.n = w2.n + j := by rw [← hS5]; exact eN4
    clear hS5
    have h5' := h5
    obtain ⟨dx5, e5, k5, v5, hm5⟩ := h5'
    refine ⟨dx5, rgF e5 k5 v5, hm5.hd, rfl, ?_⟩
    refine ⟨m3, d, S2, rfl, h5, fun q2 hq2 => ?_⟩
    have hq2 : S5.m q2 = none := hq2
    refine ⟨⟨_, W.put_at⟩, _, W.put_at, ?_⟩
    refine ⟨m3, S2, _, _, _, _, _, _, _, _, rfl, ⟨?_, by rw [bk2]; exact hb3, by rw [ev2]; exact hl3, tb3, g2, by rw [en2]; exact nm1, evw⟩, ms2, by rw [en2]; omega, by rw [ev2, List.length_append]; show S.ev.length + 2 = _; omega, ?_⟩
    · show RgAt m3 (updM (updM S5.m q2 _) q2 _) d S2
      rw [updM_upd]
      exact h5.junk hq2 _
    · show S5.n ≤ _
      omega
  · rintro env w2 ⟨m0, S, a0, a4, a5, a6, a7, a8, a9, a10, rfl, I, hms, hen, hev, hwn⟩
    have hlen : (rangeD 0 (Int.toNat 24)).length = 24 := by decide
    rw [show (rangeD 0 (Int.toNat _)).length = 24 from by decide] at *
    refine ⟨by decide, by decide, ?_⟩
    refine ⟨fun i env w3 => ∃ a, env = [a0, some .pen, some (.ref d), some (D.dic [(.inr "books", .ref b), (.inr "log", .ref l)]), a, a5, a6, a7, a8, a9, a10] ∧ RgAt m0 w3.m d { S with ev := S.ev ++ (List.replicate i rf59).flatten } ∧ w3.n = w2.n, ⟨_, rfl, by rw [show (List.replicate 0 rf59).flatten = [] from rfl, List.append_nil]; exact I.rg, rfl⟩, ?_, ?_⟩
    · rintro i x env w3 hx ⟨a, rfl, h3, hn3⟩
      obtain ⟨hi, rfl⟩ := rng_get hx
      have hi : i < 300 := hi
      have hzz : D.str zz59 ∉ nam59 := by
        unfold nam59
        simp only [List.mem_cons, List.not_mem_nil, or_false, D.str.injEq]
        decide
      have hno : zz59 ∉ keysN S.en := fun z => hzz (I.nm _ z)
      have lenF : (List.replicate i rf59).flatten.length = 2 * i := by rw [List.length_flatten, List.map_replicate, List.sum_replicate_nat]; show i * 2 = _; omega
      generalize hS : ({ S with ev := S.ev ++ (List.replicate i rf59).flatten } : Rg) = S3 at h3
      have en3 : S3.en = S.en := by rw [← hS]
      have ev3 : S3.ev = S.ev ++ (List.replicate i rf59).flatten := by rw [← hS]
      have ms3 : S3.ms = S.ms := by rw [← hS]
      have g3 : Rg59 S3 := ⟨by rw [en3]; exact I.g.nd, by rw [en3]; exact I.g.gd, by rw [en3]; exact I.g.wd⟩
      have l3 : S3.ev.length ≤ 648 := by rw [ev3, List.length_append, lenF]; omega
      have hto : cmdTo (S3.log "remove") (.remove (.str zz59)) = .err "UnknownName" none (S3.log "remove") := by
        show removeTo _ _ = _
        unfold removeTo
        rw [if_neg]
        rw [show (S3.log "remove").en = S.en from en3]
        show ¬ (decide (zz59 ∈ keysN S.en) = true)
        rw [decide_eq_true_eq]
        exact hno
      refine ⟨sz_nat 2, m0, d, S3, .remove (.str zz59), rfl, h3, g3, Odd.of (by decide), by rw [en3]; omega, by omega, I.t (by simp), I.t (by simp), fun m4 h4 => ?_⟩
      rw [show cmdTo (S3.log (cmdN (.remove (.str zz59)))) (.remove (.str zz59)) = _ from hto] at h4
      rw [show cmdTo (S3.log (cmdN (.remove (.str zz59)))) (.remove (.str zz59)) = _ from hto]
      refine ⟨sz_nat 2, .tuple [.str "unknown", .none], .tuple [.str "unknown", .none], rfl, rfl, by decide +kernel, by decide +kernel, ?_⟩
      have ev1 : PyData.eqv (.tuple [.str "unknown", .none]) (.tuple [.str "unknown", .none]) = true := by decide +kernel
      rw [ev1]
      refine ⟨_, rfl, ?_, hn3⟩
      have : (S3.log "remove").log "failed" = ({ S with ev := S.ev ++ (List.replicate (i + 1) rf59).flatten } : Rg) := by
        rw [← hS]
        unfold Rg.log
        dsimp only
        rw [List.replicate_succ', List.flatten_append, List.append_assoc, List.append_assoc]
        rfl
      rw [← this]
      exact h4
    · rintro env w3 ⟨a, rfl, h3, hn3⟩
      rw [show (rangeD 0 (Int.toNat _)).length = 300 from List.length_map ..|>.trans List.length_range] at h3
      have lenF : (List.replicate 300 rf59).flatten.length = 2 * 300 := by rw [List.length_flatten, List.map_replicate, List.sum_replicate_nat]; rfl
      generalize hS : ({ S with ev := S.ev ++ (List.replicate 300 rf59).flatten } : Rg) = S3 at h3
      have en3 : S3.en = S.en := by rw [← hS]
      have ev3 : S3.ev = S.ev ++ (List.replicate 300 rf59).flatten := by rw [← hS]
      have ms3 : S3.ms = [] := by rw [← hS]; exact hms
      have g3 : Rg59 S3 := ⟨by rw [en3]; exact I.g.nd, by rw [en3]; exact I.g.gd, by rw [en3]; exact I.g.wd⟩
      have l3 : S3.ev.length ≤ 648 := by rw [ev3, List.length_append, lenF]; omega
      clear hS
      have h3' := h3
      obtain ⟨dx3, e3, k3, v3, hm3⟩ := h3'
      refine ⟨dx3, rgF e3 k3 v3, hm3.hd, rfl, ?_⟩
      refine ⟨_, S3, rfl, .inl ⟨m0, d, rfl, h3⟩, ?_⟩
      refine ⟨.inr "log", .ref l, rfl, rfl, ?_⟩
      refine ⟨sz_nat 2, fun q hq => ?_⟩
      have hq : w3.m q = none := hq
      refine ⟨_, W.put_at, by omega, by omega, Nat.le_of_ble_eq_true rfl, ?_⟩
      have hlq : w3.m l = some (.lst (S.ev.map .str)) := h3.keep I.hl
      have nlq : l ≠ q := fun z => by rw [← z, hlq] at hq; cases hq
      refine ⟨S.ev.map .str, (W.put_ne nlq).trans hlq, ?_, ?_⟩
      · rw [List.length_map, List.length_flatten, List.map_replicate, List.sum_replicate_nat]
        exact le_sz (by show S.ev.length + 300 * 2 ≤ _; omega)
      have evw : ∀ x ∈ S3.ev, PyData.strOk x = true := fun x hx => by
        rw [ev3] at hx
        rcases List.mem_append.mp hx with hx | hx
        · exact evs_ok (I.ev x hx)
        · obtain ⟨r, hr, hx⟩ := List.mem_flatten.mp hx
          obtain rfl := List.eq_of_mem_replicate hr
          refine evs_ok ?_
          unfold rf59 at hx
          simp only [List.mem_cons, List.not_mem_nil, or_false] at hx
          rcases hx with rfl | rfl <;> simp [evs59]
      have eL : (S.ev.map D.str ++ (List.replicate (Int.toNat 300) [D.str "remove", D.str "failed"]).flatten) = S3.ev.map D.str := by
        rw [ev3, List.map_append, List.map_flatten, List.map_replicate]
        rfl
      rw [eL]
      refine eq_strsL evw evw ?_
      refine ifne (fun c => absurd rfl (of_decide_eq_false c)) (fun _ => ?_)
      dsimp only [dNext]
      generalize hS6 : W.put _ q _ = S6
      have h6 : RgAt m0 S6.m d S3 := by rw [← hS6]; exact h3.junk hq _
      have hn6 : S6.n = w3.n := by rw [← hS6]; rfl
      clear hS6 eL
      refine ⟨by decide, by decide, ?_⟩
      refine ⟨Nat.le_of_ble_eq_true rfl, fun i acc w => acc = (List.range i).map (fun k => D.str (qS59 k)) ∧ w = S6, ⟨rfl, rfl⟩, ?_, ?_⟩
      · rintro i x acc w4 hx hai ⟨rfl, rfl⟩
        obtain ⟨hi, rfl⟩ := rng_get hx
        have hi : i < 30 := hi
        refine ⟨by show (0 + (i : Int)).natAbs.log2 < 1920; exact Nat.lt_of_le_of_lt (Nat.log2_le_self _) (by omega), ?_⟩
        refine ⟨Nat.le_trans (q_len i hi) (Nat.le_of_ble_eq_true rfl), ?_, rfl⟩
        rw [List.range_succ, List.map_append]
        rfl
      rintro acc w4 ⟨rfl, rfl⟩
      rw [show (rangeD 0 (Int.toNat _)).length = 30 from List.length_map ..|>.trans List.length_range]
      unfold finL
      refine ⟨fun i env (w5 : W) => ∃ a9, env = [a0, some .pen, some (.ref d), some (D.dic [(.inr "books", .ref b), (.inr "log", .ref l)]), a, a5, a6, a7, some (.lst ((List.range 30).map fun k => D.str (qS59 k))), a9, a10] ∧ RgAt m0 w5.m d (st59 S3 i) ∧ w5.n = w4.n, ⟨_, rfl, h6, rfl⟩, ?_, ?_⟩
      · rintro i x env w5 hx ⟨a9, rfl, h7, hn7⟩
        rw [List.getElem?_map] at hx
        obtain ⟨k, hk, rfl⟩ := Option.map_eq_some_iff.mp hx
        obtain ⟨hi, rfl⟩ := List.getElem?_eq_some_iff.mp hk
        rw [List.getElem_range] at *
        have hi : i < 30 := hi
        have h7' := h7
        obtain ⟨dx7, e7, k7, v7, hm7⟩ := h7'
        refine ⟨dx7, rgF e7 k7 v7, hm7.hd, rfl, ?_⟩
        have lev := st59_ev S3 i
        have len : (st59 S3 i).en.length = S3.en.length + i := by rw [st59_en, List.length_append, List.length_map, List.length_range]
        have lms : (st59 S3 i).ms.length = i := by rw [st59_ms S3 ms3, List.length_map, List.length_range]
        have len3 : S3.en.length ≤ 24 := by rw [en3]; exact hen
        have no1 : qS59 i ∉ keysN (st59 S3 i).en := by
          rw [st59_keys, List.mem_append]
          rintro (z | z)
          · rw [en3] at z
            exact q_no i hi (I.nm _ z)
          · exact q_nd2 hi z
        have no2 : qS59 i ∉ keysN (st59 S3 i).ms := by
          rw [st59_mk S3 ms3]
          exact q_nd2 hi
        refine ⟨sz_nat 0, m0, d, st59 S3 i, .str (qS59 i), .str "top", .lst [], rfl, h7, by omega, I.t (by simp), q_pl i hi, rfl, (Odd.of (d := .lst []) (by decide)).ar, (Odd.of (d := .str "top") (by decide)).sc, by omega, ?_⟩
        rw [q_create (S := (st59 S3 i).log "create") hi no1]
        intro m8 h8
        have h8' := h8
        obtain ⟨dx8, e8, k8, v8, hm8⟩ := h8'
        refine ⟨dx8, rgF e8 k8 v8, hm8.hd, rfl, ?_⟩
        refine ⟨m0, d, _, .str (qS59 i), rfl, h8, ?_, I.t (by simp), q_pl i hi, ?_, ?_, ?_⟩
        · show ((((st59 S3 i).ev ++ [_]) ++ [_] : List Str)).length ≤ 10000
          rw [List.length_append, List.length_append]
          show (st59 S3 i).ev.length + 1 + 1 ≤ _
          omega
        · show ((st59 S3 i).en ++ [_]).length ≤ 10000
          rw [List.length_append]
          show (st59 S3 i).en.length + 1 ≤ _
          omega
        · show (st59 S3 i).ms.length ≤ 10000
          omega
        rw [q_mark (S := (({ (st59 S3 i).log "create" with en := ((st59 S3 i).log "create").en ++ [qE59 i] } : Rg).log "done").log "mark") hi no2]
        intro m9 h9
        exact ⟨_, rfl, h9, hn7⟩
      · rintro env w5 ⟨a9, rfl, h7, hn7⟩
        have len30 : (List.map (fun k => D.str (qS59 k)) (List.range 30)).length = 30 := by rw [List.length_map, List.length_range]
        rw [len30] at h7
        have h7' := h7
        obtain ⟨dx7, e7, k7, v7, hm7⟩ := h7'
        refine ⟨dx7, rgF e7 k7 v7, hm7.hd, rfl, ?_⟩
        refine ⟨_, _, rfl, .inl ⟨m0, d, rfl, h7⟩, ?_⟩
        refine ⟨.inr "books", .ref b, rfl, rfl, ?_⟩
        have hbS := h7.keep I.hb
        refine .inr ⟨_, hbS, ?_⟩
        have ekk : ((mK progD (booksOf S)).map fun kv => kD kv.1) = (keysN S.en).map D.str := by
          rw [← books_keys]
          unfold mK keysN
          rw [List.map_map, List.map_map]
          rfl
        rw [ekk]
        have eKs : (keysN S.en).map D.str ++ (List.range 30).map (fun k => D.str (qS59 k)) = (keysN (st59 S3 30).en).map D.str := by
          rw [st59_keys, en3, List.map_append, List.map_map]
          rfl
        have lks : (keysN S.en).length ≤ 24 := by rw [len_keysN]; exact hen
        refine ⟨by rw [List.length_map, List.length_map, List.length_range]; exact le_sz (by omega), ?_⟩
        rw [eKs]
        refine ⟨_, strsOf_map _, ?_⟩
        have okk : ∀ s ∈ sortT (keysN (st59 S3 30).en), PyData.strOk s = true := fun s hs => by
          rw [mem_sortT, st59_keys, en3, List.mem_append] at hs
          rcases hs with hs | hs
          · exact word_ok (I.g.wd s hs)
          · obtain ⟨k, hk, rfl⟩ := List.mem_map.mp hs
            exact word_ok (q_word k (List.mem_range.mp hk))
        refine eq_strsL okk okk ?_
        rw [decide_eq_true (rfl : sortT (keysN (st59 S3 30).en) = _)]
        refine ⟨dx7, rgF e7 k7 v7, hm7.hd, rfl, ?_⟩
        have lev := st59_ev S3 30
        have len3 : S3.en.length ≤ 24 := by rw [en3]; exact hen
        have hen30 := st59_en S3 30
        have hms30 := st59_ms S3 ms3 30
        refine ⟨m0, d, st59 S3 30, .str "q0", rfl, h7, by omega, I.t (by simp), rfl, ?_, ?_⟩
        · intro e he
          rw [hms30] at he
          obtain ⟨k, hk, rfl⟩ := List.mem_map.mp he
          have hk := List.mem_range.mp hk
          show (keysN (S3.en ++ (List.range (k + 1)).map qE59)).Nodup ∧ (S3.en ++ (List.range (k + 1)).map qE59).length ≤ 10000
          rw [← st59_en, st59_keys, st59_en, List.length_append, List.length_map, List.length_range]
          refine ⟨List.nodup_append.mpr ⟨g3.nd, ?_, ?_⟩, by omega⟩
          · exact q_ndp (by omega)
          · rintro a ha b2 hb2 rfl
            obtain ⟨j, hj, rfl⟩ := List.mem_map.mp hb2
            have hj := List.mem_range.mp hj
            rw [en3] at ha
            exact q_no j (by omega) (I.nm _ ha)
        rw [q_back (S := (st59 S3 30).log "back") (X := fun k => S3.en ++ (List.range (k + 1)).map qE59) hms30]
        intro m8 h8
        have h8' := h8
        obtain ⟨dx8, e8, k8, v8, hm8⟩ := h8'
        refine ⟨dx8, rgF e8 k8 v8, hm8.hd, rfl, ?_⟩
        refine ⟨_, _, rfl, .inl ⟨m0, d, rfl, h8⟩, ?_⟩
        refine ⟨.inr "books", .ref b, rfl, rfl, ?_⟩
        refine .inr ⟨_, h8.keep I.hb, ?_⟩
        rw [ekk]
        refine ⟨sz_nat 1, ?_, ?_⟩
        · rw [List.length_map]
          exact le_sz (by show (keysN S.en).length + 1 ≤ _; omega)
        have eK8 : (keysN S.en).map D.str ++ [D.str "q0"] = (keysN (S3.en ++ (List.range (0 + 1)).map qE59)).map D.str := by
          unfold keysN
          rw [List.map_append, en3, List.map_append, ← q_zero]
          rfl
        rw [eK8]
        refine ⟨_, strsOf_map _, ?_⟩
        have ok8 : ∀ s ∈ sortT (keysN (S3.en ++ (List.range (0 + 1)).map qE59)), PyData.strOk s = true := fun s hs => by
          rw [mem_sortT] at hs
          unfold keysN at hs
          rw [List.map_append, en3, List.mem_append] at hs
          rcases hs with hs | hs
          · exact word_ok (I.g.wd s hs)
          · obtain ⟨k, hk, rfl⟩ := List.mem_map.mp hs
            obtain ⟨j, hj, rfl⟩ := List.mem_map.mp hk
            exact word_ok (q_word j (by have := List.mem_range.mp hj; omega))
        refine eq_strsL ok8 ok8 ?_
        refine ifne (fun c => absurd rfl (of_decide_eq_false c)) (fun _ => ?_)
        dsimp only [dNext]
        refine fun d1 dx1 hd1 => ?_
        refine ⟨d1, dx1, rfl, W.put_at, fun m1 h1 => ?_⟩
        have h1' := h1
        obtain ⟨dy1, f1, k1, v1, hm1⟩ := h1'
        refine ⟨rfl, dy1, rgF f1 k1 v1, hm1.hd, rfl, ?_⟩
        refine ⟨_, _, rfl, .inl ⟨_, d1, rfl, h1⟩, ?_⟩
        refine ⟨sz_nat 0, ?_⟩
        refine eq_strsL (xs := sortT (keysN ([] : Tab Ent))) (ys := []) (fun x hx => absurd (mem_sortT.mp hx) (by intro z; cases z)) (fun x hx => absurd hx (by intro z; cases z)) ?_
        rw [decide_eq_true (show sortT (keysN ([] : Tab Ent)) = [] from List.mergeSort_nil)]
        refine fun d2 dx2 hd2 => ?_
        refine ⟨d2, dx2, rfl, W.put_at, fun m2 h2 => ?_⟩
        have h2' := h2
        obtain ⟨dy2, f2, k2, v2, hm2⟩ := h2'
        refine ⟨rfl, dy2, rgF f2 k2 v2, hm2.hd, rfl, ?_⟩
        refine ⟨_, _, rfl, .inl ⟨_, d2, rfl, h2⟩, ?_⟩
        refine ⟨sz_nat 0, ?_⟩
        refine eq_strsL (xs := []) (ys := []) (fun x hx => absurd hx (by intro z; cases z)) (fun x hx => absurd hx (by intro z; cases z)) ?_
        exact kk _
end Lk59
def PySem.W.Fast.tw3208584375877836715 : Nat := 0
def PySem.W.Fast.tw10085674405667626227 : Nat := 0
def PySem.W.Fast.tw2524377765068248972 : Nat := 0
def PySem.W.Fast.tw11196613297258346482 : Nat := 0
def PySem.W.Fast.tw8557052664054089090 : Nat := 0
def PySem.W.Fast.tw916033151545326648 : Nat := 0
def PySem.W.Fast.tw13834128532132897600 : Nat := 0
def PySem.W.Fast.tw9927124106259258883 : Nat := 0
def PySem.W.Fast.tw10178291284394970973 : Nat := 0
def PySem.W.Fast.tw2088577556781076720 : Nat := 0
def PySem.W.Fast.tw14234860182825292542 : Nat := 0
def PySem.W.Fast.tw4894795194014319993 : Nat := 0
def PySem.W.Fast.tw1745233153988349440 : Nat := 0
def PySem.W.Fast.tw4161713815434311953 : Nat := 0
def PySem.W.Fast.tw4384624435374829430 : Nat := 0
def PySem.W.Fast.tw17742186951760658632 : Nat := 0
def PySem.W.Fast.tw8524799372281087393 : Nat := 0
def PySem.W.Fast.tw14159974588135186631 : Nat := 0
def PySem.W.Fast.tw8618693502231989323 : Nat := 0
def PySem.W.Fast.tw13237961784634728375 : Nat := 0
def PySem.W.Fast.tw3218680665377982637 : Nat := 0
def PySem.W.Fast.tw892989283307894259 : Nat := 0
def PySem.W.Fast.tw16406395216773871993 : Nat := 0
def PySem.W.Fast.tw14718801160387753254 : Nat := 0
open PySem PySem.W PyProof.Rows DL in
theorem PySem.Challenge.cw_scopenames_k59_create_and_remove_holds : PySem.Challenge.rw_scopenames_k59_create_and_remove.Holds := by
  w_on; o_law; k_head; (case hw => w_witness2)
  k_fill
  refine walkGT (l := PySem.Challenge.rw_scopenames_k59_create_and_remove) (k := 12) rfl rfl ⟨rfl, by decide, by decide⟩ (fun w h Y => PySem.W.km_in_of Y) ?F
  case F =>
    intro w mg h Y KX G
    refine' Ec.ofC "Registry" KX G ?aC (fun kk_Registry_back _ => ?rr_Registry_back)
    (case aC => k_is)
    refine' MkrM.ofC "Registry" "back" KX G kk_Registry_back ?a ?l ?l2 ?tb ?hd ?nt (fun l_Registry_back d_Registry_back n_Registry_back => ?rm_Registry_back)
    (case a => k_is)
    (case l => k_is)
    (case l2 => k_is)
    (case tb => rfl)
    (case hd => kernel_rfl)
    (case nt => kernel_rfl)
    refine' Ec.ofC "Registry" KX G ?aC (fun kk_Registry_create _ => ?rr_Registry_create)
    (case aC => k_is)
    refine' MkrM.ofC "Registry" "create" KX G kk_Registry_create ?a ?l ?l2 ?tb ?hd ?nt (fun l_Registry_create d_Registry_create n_Registry_create => ?rm_Registry_create)
    (case a => k_is)
    (case l => k_is)
    (case l2 => k_is)
    (case tb => rfl)
    (case hd => kernel_rfl)
    (case nt => kernel_rfl)
    refine' Ec.ofC "Registry" KX G ?aC (fun kk_Registry_mark _ => ?rr_Registry_mark)
    (case aC => k_is)
    refine' MkrM.ofC "Registry" "mark" KX G kk_Registry_mark ?a ?l ?l2 ?tb ?hd ?nt (fun l_Registry_mark d_Registry_mark n_Registry_mark => ?rm_Registry_mark)
    (case a => k_is)
    (case l => k_is)
    (case l2 => k_is)
    (case tb => rfl)
    (case hd => kernel_rfl)
    (case nt => kernel_rfl)
    refine' Ec.ofC "Registry" KX G ?aC (fun kk_Registry_remove _ => ?rr_Registry_remove)
    (case aC => k_is)
    refine' MkrM.ofC "Registry" "remove" KX G kk_Registry_remove ?a ?l ?l2 ?tb ?hd ?nt (fun l_Registry_remove d_Registry_remove n_Registry_remove => ?rm_Registry_remove)
    (case a => k_is)
    (case l => k_is)
    (case l2 => k_is)
    (case tb => rfl)
    (case hd => kernel_rfl)
    (case nt => kernel_rfl)
    refine ⟨[mkrOf "Registry.back" d_Registry_back, mkrOf "Registry.create" d_Registry_create, mkrOf "Registry.mark" d_Registry_mark, mkrOf "Registry.remove" d_Registry_remove], ["Registry.back", "Registry.create", "Registry.mark", "Registry.remove"], ?h1, ?h2, ?h3, ?h4, ?h5⟩
    case h2 =>
      exact fun b hm => by
        rcases List.mem_cons.mp hm with rfl | hm
        · exact n_Registry_back
        rcases List.mem_cons.mp hm with rfl | hm
        · exact n_Registry_create
        rcases List.mem_cons.mp hm with rfl | hm
        · exact n_Registry_mark
        obtain rfl := List.mem_singleton.mp hm
        exact n_Registry_remove
    case h3 =>
      exact fun m hm => by
        rcases List.mem_cons.mp hm with rfl | hm
        · exact d_Registry_back
        rcases List.mem_cons.mp hm with rfl | hm
        · exact d_Registry_create
        rcases List.mem_cons.mp hm with rfl | hm
        · exact d_Registry_mark
        obtain rfl := List.mem_singleton.mp hm
        exact d_Registry_remove
    case h1 =>
      exact fun b hm => by
        rcases List.mem_cons.mp hm with rfl | hm
        · exact PySem.W.km_tabs_of Y _ (by first | exact List.mem_cons_self | exact List.mem_cons_of_mem _ (List.mem_cons_self) | exact List.mem_cons_of_mem _ (List.mem_cons_of_mem _ (List.mem_cons_self)) | exact List.mem_cons_of_mem _ (List.mem_cons_of_mem _ (List.mem_cons_of_mem _ (List.mem_cons_self))))
        rcases List.mem_cons.mp hm with rfl | hm
        · exact PySem.W.km_tabs_of Y _ (by first | exact List.mem_cons_self | exact List.mem_cons_of_mem _ (List.mem_cons_self) | exact List.mem_cons_of_mem _ (List.mem_cons_of_mem _ (List.mem_cons_self)) | exact List.mem_cons_of_mem _ (List.mem_cons_of_mem _ (List.mem_cons_of_mem _ (List.mem_cons_self))))
        rcases List.mem_cons.mp hm with rfl | hm
        · exact PySem.W.km_tabs_of Y _ (by first | exact List.mem_cons_self | exact List.mem_cons_of_mem _ (List.mem_cons_self) | exact List.mem_cons_of_mem _ (List.mem_cons_of_mem _ (List.mem_cons_self)) | exact List.mem_cons_of_mem _ (List.mem_cons_of_mem _ (List.mem_cons_of_mem _ (List.mem_cons_self))))
        obtain rfl := List.mem_singleton.mp hm
        exact PySem.W.km_tabs_of Y _ (by first | exact List.mem_cons_self | exact List.mem_cons_of_mem _ (List.mem_cons_self) | exact List.mem_cons_of_mem _ (List.mem_cons_of_mem _ (List.mem_cons_self)) | exact List.mem_cons_of_mem _ (List.mem_cons_of_mem _ (List.mem_cons_of_mem _ (List.mem_cons_self))))
    case h4 =>
      exact fun n hm => by
        rcases List.mem_cons.mp hm with rfl | hm
        · kernel_rfl
        rcases List.mem_cons.mp hm with rfl | hm
        · kernel_rfl
        rcases List.mem_cons.mp hm with rfl | hm
        · kernel_rfl
        obtain rfl := List.mem_singleton.mp hm
        kernel_rfl
    intro base kb nb TB
    refine' Cl.ofC "Registry" KX G ?aC ?pg ?hd ?po ?sa (fun k_Registry h_Registry m_Registry => ?r_Registry)
    (case aC => k_is)
    (case pg => k_is)
    (case hd => k_is)
    (case po => k_is)
    (case sa => k_is)
    refine' Cl.ofC "Entry" KX G ?aC ?pg ?hd ?po ?sa (fun k_Entry h_Entry m_Entry => ?r_Entry)
    (case aC => k_is)
    (case pg => k_is)
    (case hd => k_is)
    (case po => k_is)
    (case sa => k_is)
    refine' Cl.ofC "Program" KX G ?aC ?pg ?hd ?po ?sa (fun k_Program h_Program m_Program => ?r_Program)
    (case aC => k_is)
    (case pg => k_is)
    (case hd => k_is)
    (case po => k_is)
    (case sa => k_is)
    refine' Ec.ofC "DuplicateName" KX G ?aC (fun k_DuplicateName m_DuplicateName => ?r_DuplicateName)
    (case aC => k_is)
    refine' Ec.ofC "InvalidCommand" KX G ?aC (fun k_InvalidCommand m_InvalidCommand => ?r_InvalidCommand)
    (case aC => k_is)
    refine' Ec.ofC "InvalidEdit" KX G ?aC (fun k_InvalidEdit m_InvalidEdit => ?r_InvalidEdit)
    (case aC => k_is)
    refine' Ec.ofC "InvalidKept" KX G ?aC (fun k_InvalidKept m_InvalidKept => ?r_InvalidKept)
    (case aC => k_is)
    refine' Ec.ofC "InvalidPrices" KX G ?aC (fun k_InvalidPrices m_InvalidPrices => ?r_InvalidPrices)
    (case aC => k_is)
    refine' Ec.ofC "InvalidProgram" KX G ?aC (fun k_InvalidProgram m_InvalidProgram => ?r_InvalidProgram)
    (case aC => k_is)
    refine' Ec.ofC "InvalidWord" KX G ?aC (fun k_InvalidWord m_InvalidWord => ?r_InvalidWord)
    (case aC => k_is)
    refine' Ec.ofC "NoRenaming" KX G ?aC (fun k_NoRenaming m_NoRenaming => ?r_NoRenaming)
    (case aC => k_is)
    refine' Ec.ofC "ScopeError" KX G ?aC (fun k_ScopeError m_ScopeError => ?r_ScopeError)
    (case aC => k_is)
    refine' Ec.ofC "UnknownMark" KX G ?aC (fun k_UnknownMark m_UnknownMark => ?r_UnknownMark)
    (case aC => k_is)
    refine' Ec.ofC "UnknownName" KX G ?aC (fun k_UnknownName m_UnknownName => ?r_UnknownName)
    (case aC => k_is)
    refine' thenT (T := fun K => Lk59.Tx K mg base (tpOf [mkrOf "Registry.back" d_Registry_back, mkrOf "Registry.create" d_Registry_create, mkrOf "Registry.mark" d_Registry_mark, mkrOf "Registry.remove" d_Registry_remove])) KX ?T (fun T => ?rT)
    case T =>
      refine' ⟨TabXm.of l_Registry_back (by kernel_rfl) (TB (mkrOf "Registry.back" d_Registry_back) (by simp)), TabXm.of l_Registry_create (by kernel_rfl) (TB (mkrOf "Registry.create" d_Registry_create) (by simp)), TabXm.of l_Registry_mark (by kernel_rfl) (TB (mkrOf "Registry.mark" d_Registry_mark) (by simp)), TabXm.of l_Registry_remove (by kernel_rfl) (TB (mkrOf "Registry.remove" d_Registry_remove) (by simp)), Fld.of k_Entry h_Entry ?f_Entry_amount, Fld.of k_Entry h_Entry ?f_Entry_content, Fld.of k_Entry h_Entry ?f_Entry_costs, Fld.of k_Program h_Program ?f_Program_blocked, Fld.of k_Program h_Program ?f_Program_declared, Fld.of k_Program h_Program ?f_Program_outside, Fld.of k_Program h_Program ?f_Program_parents, Fld.of k_Program h_Program ?f_Program_targets, Fld.of k_Registry h_Registry ?f_Registry_entries, Fld.of k_Registry h_Registry ?f_Registry_events, Fld.of k_Registry h_Registry ?f_Registry_marks, IsX.of k_Program h_Program m_Program ?i1_Program ?i2_Program ?i3_Program ?i4_Program ?i5_Program ?i6_Program, ExX.of k_DuplicateName m_DuplicateName ?x1_DuplicateName ?x2_DuplicateName ?x3_DuplicateName ?x4_DuplicateName, ExX.of k_InvalidProgram m_InvalidProgram ?x1_InvalidProgram ?x2_InvalidProgram ?x3_InvalidProgram ?x4_InvalidProgram, ExX.of k_InvalidWord m_InvalidWord ?x1_InvalidWord ?x2_InvalidWord ?x3_InvalidWord ?x4_InvalidWord, ExX.of k_UnknownMark m_UnknownMark ?x1_UnknownMark ?x2_UnknownMark ?x3_UnknownMark ?x4_UnknownMark, ExX.of k_UnknownName m_UnknownName ?x1_UnknownName ?x2_UnknownName ?x3_UnknownName ?x4_UnknownName, EisX.of m_DuplicateName (EisB.cons k_DuplicateName (ExcC.of ?y1_DuplicateName_DuplicateName ?y2_DuplicateName_DuplicateName ?y3_DuplicateName_DuplicateName ?y4_DuplicateName_DuplicateName ?y5_DuplicateName_DuplicateName ?y6_DuplicateName_DuplicateName ?y7_DuplicateName_DuplicateName ?y8_DuplicateName_DuplicateName) kit_eq (EisB.cons k_InvalidProgram (ExcC.of ?y1_DuplicateName_InvalidProgram ?y2_DuplicateName_InvalidProgram ?y3_DuplicateName_InvalidProgram ?y4_DuplicateName_InvalidProgram ?y5_DuplicateName_InvalidProgram ?y6_DuplicateName_InvalidProgram ?y7_DuplicateName_InvalidProgram ?y8_DuplicateName_InvalidProgram) (kit_ne (by decide) ?za_DuplicateName_InvalidProgram ?zb_DuplicateName_InvalidProgram ?zc_DuplicateName_InvalidProgram) (EisB.cons k_InvalidWord (ExcC.of ?y1_DuplicateName_InvalidWord ?y2_DuplicateName_InvalidWord ?y3_DuplicateName_InvalidWord ?y4_DuplicateName_InvalidWord ?y5_DuplicateName_InvalidWord ?y6_DuplicateName_InvalidWord ?y7_DuplicateName_InvalidWord ?y8_DuplicateName_InvalidWord) (kit_ne (by decide) ?za_DuplicateName_InvalidWord ?zb_DuplicateName_InvalidWord ?zc_DuplicateName_InvalidWord) (EisB.cons k_UnknownMark (ExcC.of ?y1_DuplicateName_UnknownMark ?y2_DuplicateName_UnknownMark ?y3_DuplicateName_UnknownMark ?y4_DuplicateName_UnknownMark ?y5_DuplicateName_UnknownMark ?y6_DuplicateName_UnknownMark ?y7_DuplicateName_UnknownMark ?y8_DuplicateName_UnknownMark) (kit_ne (by decide) ?za_DuplicateName_UnknownMark ?zb_DuplicateName_UnknownMark ?zc_DuplicateName_UnknownMark) (EisB.cons k_UnknownName (ExcC.of ?y1_DuplicateName_UnknownName ?y2_DuplicateName_UnknownName ?y3_DuplicateName_UnknownName ?y4_DuplicateName_UnknownName ?y5_DuplicateName_UnknownName ?y6_DuplicateName_UnknownName ?y7_DuplicateName_UnknownName ?y8_DuplicateName_UnknownName) (kit_ne (by decide) ?za_DuplicateName_UnknownName ?zb_DuplicateName_UnknownName ?zc_DuplicateName_UnknownName) EisB.nil))))), EisX.of m_InvalidCommand (EisB.cons k_DuplicateName (ExcC.of ?y1_InvalidCommand_DuplicateName ?y2_InvalidCommand_DuplicateName ?y3_InvalidCommand_DuplicateName ?y4_InvalidCommand_DuplicateName ?y5_InvalidCommand_DuplicateName ?y6_InvalidCommand_DuplicateName ?y7_InvalidCommand_DuplicateName ?y8_InvalidCommand_DuplicateName) (kit_ne (by decide) ?za_InvalidCommand_DuplicateName ?zb_InvalidCommand_DuplicateName ?zc_InvalidCommand_DuplicateName) (EisB.cons k_InvalidProgram (ExcC.of ?y1_InvalidCommand_InvalidProgram ?y2_InvalidCommand_InvalidProgram ?y3_InvalidCommand_InvalidProgram ?y4_InvalidCommand_InvalidProgram ?y5_InvalidCommand_InvalidProgram ?y6_InvalidCommand_InvalidProgram ?y7_InvalidCommand_InvalidProgram ?y8_InvalidCommand_InvalidProgram) (kit_ne (by decide) ?za_InvalidCommand_InvalidProgram ?zb_InvalidCommand_InvalidProgram ?zc_InvalidCommand_InvalidProgram) (EisB.cons k_InvalidWord (ExcC.of ?y1_InvalidCommand_InvalidWord ?y2_InvalidCommand_InvalidWord ?y3_InvalidCommand_InvalidWord ?y4_InvalidCommand_InvalidWord ?y5_InvalidCommand_InvalidWord ?y6_InvalidCommand_InvalidWord ?y7_InvalidCommand_InvalidWord ?y8_InvalidCommand_InvalidWord) (kit_ne (by decide) ?za_InvalidCommand_InvalidWord ?zb_InvalidCommand_InvalidWord ?zc_InvalidCommand_InvalidWord) (EisB.cons k_UnknownMark (ExcC.of ?y1_InvalidCommand_UnknownMark ?y2_InvalidCommand_UnknownMark ?y3_InvalidCommand_UnknownMark ?y4_InvalidCommand_UnknownMark ?y5_InvalidCommand_UnknownMark ?y6_InvalidCommand_UnknownMark ?y7_InvalidCommand_UnknownMark ?y8_InvalidCommand_UnknownMark) (kit_ne (by decide) ?za_InvalidCommand_UnknownMark ?zb_InvalidCommand_UnknownMark ?zc_InvalidCommand_UnknownMark) (EisB.cons k_UnknownName (ExcC.of ?y1_InvalidCommand_UnknownName ?y2_InvalidCommand_UnknownName ?y3_InvalidCommand_UnknownName ?y4_InvalidCommand_UnknownName ?y5_InvalidCommand_UnknownName ?y6_InvalidCommand_UnknownName ?y7_InvalidCommand_UnknownName ?y8_InvalidCommand_UnknownName) (kit_ne (by decide) ?za_InvalidCommand_UnknownName ?zb_InvalidCommand_UnknownName ?zc_InvalidCommand_UnknownName) EisB.nil))))), EisX.of m_InvalidEdit (EisB.cons k_DuplicateName (ExcC.of ?y1_InvalidEdit_DuplicateName ?y2_InvalidEdit_DuplicateName ?y3_InvalidEdit_DuplicateName ?y4_InvalidEdit_DuplicateName ?y5_InvalidEdit_DuplicateName ?y6_InvalidEdit_DuplicateName ?y7_InvalidEdit_DuplicateName ?y8_InvalidEdit_DuplicateName) (kit_ne (by decide) ?za_InvalidEdit_DuplicateName ?zb_InvalidEdit_DuplicateName ?zc_InvalidEdit_DuplicateName) (EisB.cons k_InvalidProgram (ExcC.of ?y1_InvalidEdit_InvalidProgram ?y2_InvalidEdit_InvalidProgram ?y3_InvalidEdit_InvalidProgram ?y4_InvalidEdit_InvalidProgram ?y5_InvalidEdit_InvalidProgram ?y6_InvalidEdit_InvalidProgram ?y7_InvalidEdit_InvalidProgram ?y8_InvalidEdit_InvalidProgram) (kit_ne (by decide) ?za_InvalidEdit_InvalidProgram ?zb_InvalidEdit_InvalidProgram ?zc_InvalidEdit_InvalidProgram) (EisB.cons k_InvalidWord (ExcC.of ?y1_InvalidEdit_InvalidWord ?y2_InvalidEdit_InvalidWord ?y3_InvalidEdit_InvalidWord ?y4_InvalidEdit_InvalidWord ?y5_InvalidEdit_InvalidWord ?y6_InvalidEdit_InvalidWord ?y7_InvalidEdit_InvalidWord ?y8_InvalidEdit_InvalidWord) (kit_ne (by decide) ?za_InvalidEdit_InvalidWord ?zb_InvalidEdit_InvalidWord ?zc_InvalidEdit_InvalidWord) (EisB.cons k_UnknownMark (ExcC.of ?y1_InvalidEdit_UnknownMark ?y2_InvalidEdit_UnknownMark ?y3_InvalidEdit_UnknownMark ?y4_InvalidEdit_UnknownMark ?y5_InvalidEdit_UnknownMark ?y6_InvalidEdit_UnknownMark ?y7_InvalidEdit_UnknownMark ?y8_InvalidEdit_UnknownMark) (kit_ne (by decide) ?za_InvalidEdit_UnknownMark ?zb_InvalidEdit_UnknownMark ?zc_InvalidEdit_UnknownMark) (EisB.cons k_UnknownName (ExcC.of ?y1_InvalidEdit_UnknownName ?y2_InvalidEdit_UnknownName ?y3_InvalidEdit_UnknownName ?y4_InvalidEdit_UnknownName ?y5_InvalidEdit_UnknownName ?y6_InvalidEdit_UnknownName ?y7_InvalidEdit_UnknownName ?y8_InvalidEdit_UnknownName) (kit_ne (by decide) ?za_InvalidEdit_UnknownName ?zb_InvalidEdit_UnknownName ?zc_InvalidEdit_UnknownName) EisB.nil))))), EisX.of m_InvalidKept (EisB.cons k_DuplicateName (ExcC.of ?y1_InvalidKept_DuplicateName ?y2_InvalidKept_DuplicateName ?y3_InvalidKept_DuplicateName ?y4_InvalidKept_DuplicateName ?y5_InvalidKept_DuplicateName ?y6_InvalidKept_DuplicateName ?y7_InvalidKept_DuplicateName ?y8_InvalidKept_DuplicateName) (kit_ne (by decide) ?za_InvalidKept_DuplicateName ?zb_InvalidKept_DuplicateName ?zc_InvalidKept_DuplicateName) (EisB.cons k_InvalidProgram (ExcC.of ?y1_InvalidKept_InvalidProgram ?y2_InvalidKept_InvalidProgram ?y3_InvalidKept_InvalidProgram ?y4_InvalidKept_InvalidProgram ?y5_InvalidKept_InvalidProgram ?y6_InvalidKept_InvalidProgram ?y7_InvalidKept_InvalidProgram ?y8_InvalidKept_InvalidProgram) (kit_ne (by decide) ?za_InvalidKept_InvalidProgram ?zb_InvalidKept_InvalidProgram ?zc_InvalidKept_InvalidProgram) (EisB.cons k_InvalidWord (ExcC.of ?y1_InvalidKept_InvalidWord ?y2_InvalidKept_InvalidWord ?y3_InvalidKept_InvalidWord ?y4_InvalidKept_InvalidWord ?y5_InvalidKept_InvalidWord ?y6_InvalidKept_InvalidWord ?y7_InvalidKept_InvalidWord ?y8_InvalidKept_InvalidWord) (kit_ne (by decide) ?za_InvalidKept_InvalidWord ?zb_InvalidKept_InvalidWord ?zc_InvalidKept_InvalidWord) (EisB.cons k_UnknownMark (ExcC.of ?y1_InvalidKept_UnknownMark ?y2_InvalidKept_UnknownMark ?y3_InvalidKept_UnknownMark ?y4_InvalidKept_UnknownMark ?y5_InvalidKept_UnknownMark ?y6_InvalidKept_UnknownMark ?y7_InvalidKept_UnknownMark ?y8_InvalidKept_UnknownMark) (kit_ne (by decide) ?za_InvalidKept_UnknownMark ?zb_InvalidKept_UnknownMark ?zc_InvalidKept_UnknownMark) (EisB.cons k_UnknownName (ExcC.of ?y1_InvalidKept_UnknownName ?y2_InvalidKept_UnknownName ?y3_InvalidKept_UnknownName ?y4_InvalidKept_UnknownName ?y5_InvalidKept_UnknownName ?y6_InvalidKept_UnknownName ?y7_InvalidKept_UnknownName ?y8_InvalidKept_UnknownName) (kit_ne (by decide) ?za_InvalidKept_UnknownName ?zb_InvalidKept_UnknownName ?zc_InvalidKept_UnknownName) EisB.nil))))), EisX.of m_InvalidPrices (EisB.cons k_DuplicateName (ExcC.of ?y1_InvalidPrices_DuplicateName ?y2_InvalidPrices_DuplicateName ?y3_InvalidPrices_DuplicateName ?y4_InvalidPrices_DuplicateName ?y5_InvalidPrices_DuplicateName ?y6_InvalidPrices_DuplicateName ?y7_InvalidPrices_DuplicateName ?y8_InvalidPrices_DuplicateName) (kit_ne (by decide) ?za_InvalidPrices_DuplicateName ?zb_InvalidPrices_DuplicateName ?zc_InvalidPrices_DuplicateName) (EisB.cons k_InvalidProgram (ExcC.of ?y1_InvalidPrices_InvalidProgram ?y2_InvalidPrices_InvalidProgram ?y3_InvalidPrices_InvalidProgram ?y4_InvalidPrices_InvalidProgram ?y5_InvalidPrices_InvalidProgram ?y6_InvalidPrices_InvalidProgram ?y7_InvalidPrices_InvalidProgram ?y8_InvalidPrices_InvalidProgram) (kit_ne (by decide) ?za_InvalidPrices_InvalidProgram ?zb_InvalidPrices_InvalidProgram ?zc_InvalidPrices_InvalidProgram) (EisB.cons k_InvalidWord (ExcC.of ?y1_InvalidPrices_InvalidWord ?y2_InvalidPrices_InvalidWord ?y3_InvalidPrices_InvalidWord ?y4_InvalidPrices_InvalidWord ?y5_InvalidPrices_InvalidWord ?y6_InvalidPrices_InvalidWord ?y7_InvalidPrices_InvalidWord ?y8_InvalidPrices_InvalidWord) (kit_ne (by decide) ?za_InvalidPrices_InvalidWord ?zb_InvalidPrices_InvalidWord ?zc_InvalidPrices_InvalidWord) (EisB.cons k_UnknownMark (ExcC.of ?y1_InvalidPrices_UnknownMark ?y2_InvalidPrices_UnknownMark ?y3_InvalidPrices_UnknownMark ?y4_InvalidPrices_UnknownMark ?y5_InvalidPrices_UnknownMark ?y6_InvalidPrices_UnknownMark ?y7_InvalidPrices_UnknownMark ?y8_InvalidPrices_UnknownMark) (kit_ne (by decide) ?za_InvalidPrices_UnknownMark ?zb_InvalidPrices_UnknownMark ?zc_InvalidPrices_UnknownMark) (EisB.cons k_UnknownName (ExcC.of ?y1_InvalidPrices_UnknownName ?y2_InvalidPrices_UnknownName ?y3_InvalidPrices_UnknownName ?y4_InvalidPrices_UnknownName ?y5_InvalidPrices_UnknownName ?y6_InvalidPrices_UnknownName ?y7_InvalidPrices_UnknownName ?y8_InvalidPrices_UnknownName) (kit_ne (by decide) ?za_InvalidPrices_UnknownName ?zb_InvalidPrices_UnknownName ?zc_InvalidPrices_UnknownName) EisB.nil))))), EisX.of m_InvalidProgram (EisB.cons k_DuplicateName (ExcC.of ?y1_InvalidProgram_DuplicateName ?y2_InvalidProgram_DuplicateName ?y3_InvalidProgram_DuplicateName ?y4_InvalidProgram_DuplicateName ?y5_InvalidProgram_DuplicateName ?y6_InvalidProgram_DuplicateName ?y7_InvalidProgram_DuplicateName ?y8_InvalidProgram_DuplicateName) (kit_ne (by decide) ?za_InvalidProgram_DuplicateName ?zb_InvalidProgram_DuplicateName ?zc_InvalidProgram_DuplicateName) (EisB.cons k_InvalidProgram (ExcC.of ?y1_InvalidProgram_InvalidProgram ?y2_InvalidProgram_InvalidProgram ?y3_InvalidProgram_InvalidProgram ?y4_InvalidProgram_InvalidProgram ?y5_InvalidProgram_InvalidProgram ?y6_InvalidProgram_InvalidProgram ?y7_InvalidProgram_InvalidProgram ?y8_InvalidProgram_InvalidProgram) kit_eq (EisB.cons k_InvalidWord (ExcC.of ?y1_InvalidProgram_InvalidWord ?y2_InvalidProgram_InvalidWord ?y3_InvalidProgram_InvalidWord ?y4_InvalidProgram_InvalidWord ?y5_InvalidProgram_InvalidWord ?y6_InvalidProgram_InvalidWord ?y7_InvalidProgram_InvalidWord ?y8_InvalidProgram_InvalidWord) (kit_ne (by decide) ?za_InvalidProgram_InvalidWord ?zb_InvalidProgram_InvalidWord ?zc_InvalidProgram_InvalidWord) (EisB.cons k_UnknownMark (ExcC.of ?y1_InvalidProgram_UnknownMark ?y2_InvalidProgram_UnknownMark ?y3_InvalidProgram_UnknownMark ?y4_InvalidProgram_UnknownMark ?y5_InvalidProgram_UnknownMark ?y6_InvalidProgram_UnknownMark ?y7_InvalidProgram_UnknownMark ?y8_InvalidProgram_UnknownMark) (kit_ne (by decide) ?za_InvalidProgram_UnknownMark ?zb_InvalidProgram_UnknownMark ?zc_InvalidProgram_UnknownMark) (EisB.cons k_UnknownName (ExcC.of ?y1_InvalidProgram_UnknownName ?y2_InvalidProgram_UnknownName ?y3_InvalidProgram_UnknownName ?y4_InvalidProgram_UnknownName ?y5_InvalidProgram_UnknownName ?y6_InvalidProgram_UnknownName ?y7_InvalidProgram_UnknownName ?y8_InvalidProgram_UnknownName) (kit_ne (by decide) ?za_InvalidProgram_UnknownName ?zb_InvalidProgram_UnknownName ?zc_InvalidProgram_UnknownName) EisB.nil))))), EisX.of m_InvalidWord (EisB.cons k_DuplicateName (ExcC.of ?y1_InvalidWord_DuplicateName ?y2_InvalidWord_DuplicateName ?y3_InvalidWord_DuplicateName ?y4_InvalidWord_DuplicateName ?y5_InvalidWord_DuplicateName ?y6_InvalidWord_DuplicateName ?y7_InvalidWord_DuplicateName ?y8_InvalidWord_DuplicateName) (kit_ne (by decide) ?za_InvalidWord_DuplicateName ?zb_InvalidWord_DuplicateName ?zc_InvalidWord_DuplicateName) (EisB.cons k_InvalidProgram (ExcC.of ?y1_InvalidWord_InvalidProgram ?y2_InvalidWord_InvalidProgram ?y3_InvalidWord_InvalidProgram ?y4_InvalidWord_InvalidProgram ?y5_InvalidWord_InvalidProgram ?y6_InvalidWord_InvalidProgram ?y7_InvalidWord_InvalidProgram ?y8_InvalidWord_InvalidProgram) (kit_ne (by decide) ?za_InvalidWord_InvalidProgram ?zb_InvalidWord_InvalidProgram ?zc_InvalidWord_InvalidProgram) (EisB.cons k_InvalidWord (ExcC.of ?y1_InvalidWord_InvalidWord ?y2_InvalidWord_InvalidWord ?y3_InvalidWord_InvalidWord ?y4_InvalidWord_InvalidWord ?y5_InvalidWord_InvalidWord ?y6_InvalidWord_InvalidWord ?y7_InvalidWord_InvalidWord ?y8_InvalidWord_InvalidWord) kit_eq (EisB.cons k_UnknownMark (ExcC.of ?y1_InvalidWord_UnknownMark ?y2_InvalidWord_UnknownMark ?y3_InvalidWord_UnknownMark ?y4_InvalidWord_UnknownMark ?y5_InvalidWord_UnknownMark ?y6_InvalidWord_UnknownMark ?y7_InvalidWord_UnknownMark ?y8_InvalidWord_UnknownMark) (kit_ne (by decide) ?za_InvalidWord_UnknownMark ?zb_InvalidWord_UnknownMark ?zc_InvalidWord_UnknownMark) (EisB.cons k_UnknownName (ExcC.of ?y1_InvalidWord_UnknownName ?y2_InvalidWord_UnknownName ?y3_InvalidWord_UnknownName ?y4_InvalidWord_UnknownName ?y5_InvalidWord_UnknownName ?y6_InvalidWord_UnknownName ?y7_InvalidWord_UnknownName ?y8_InvalidWord_UnknownName) (kit_ne (by decide) ?za_InvalidWord_UnknownName ?zb_InvalidWord_UnknownName ?zc_InvalidWord_UnknownName) EisB.nil))))), EisX.of m_NoRenaming (EisB.cons k_DuplicateName (ExcC.of ?y1_NoRenaming_DuplicateName ?y2_NoRenaming_DuplicateName ?y3_NoRenaming_DuplicateName ?y4_NoRenaming_DuplicateName ?y5_NoRenaming_DuplicateName ?y6_NoRenaming_DuplicateName ?y7_NoRenaming_DuplicateName ?y8_NoRenaming_DuplicateName) (kit_ne (by decide) ?za_NoRenaming_DuplicateName ?zb_NoRenaming_DuplicateName ?zc_NoRenaming_DuplicateName) (EisB.cons k_InvalidProgram (ExcC.of ?y1_NoRenaming_InvalidProgram ?y2_NoRenaming_InvalidProgram ?y3_NoRenaming_InvalidProgram ?y4_NoRenaming_InvalidProgram ?y5_NoRenaming_InvalidProgram ?y6_NoRenaming_InvalidProgram ?y7_NoRenaming_InvalidProgram ?y8_NoRenaming_InvalidProgram) (kit_ne (by decide) ?za_NoRenaming_InvalidProgram ?zb_NoRenaming_InvalidProgram ?zc_NoRenaming_InvalidProgram) (EisB.cons k_InvalidWord (ExcC.of ?y1_NoRenaming_InvalidWord ?y2_NoRenaming_InvalidWord ?y3_NoRenaming_InvalidWord ?y4_NoRenaming_InvalidWord ?y5_NoRenaming_InvalidWord ?y6_NoRenaming_InvalidWord ?y7_NoRenaming_InvalidWord ?y8_NoRenaming_InvalidWord) (kit_ne (by decide) ?za_NoRenaming_InvalidWord ?zb_NoRenaming_InvalidWord ?zc_NoRenaming_InvalidWord) (EisB.cons k_UnknownMark (ExcC.of ?y1_NoRenaming_UnknownMark ?y2_NoRenaming_UnknownMark ?y3_NoRenaming_UnknownMark ?y4_NoRenaming_UnknownMark ?y5_NoRenaming_UnknownMark ?y6_NoRenaming_UnknownMark ?y7_NoRenaming_UnknownMark ?y8_NoRenaming_UnknownMark) (kit_ne (by decide) ?za_NoRenaming_UnknownMark ?zb_NoRenaming_UnknownMark ?zc_NoRenaming_UnknownMark) (EisB.cons k_UnknownName (ExcC.of ?y1_NoRenaming_UnknownName ?y2_NoRenaming_UnknownName ?y3_NoRenaming_UnknownName ?y4_NoRenaming_UnknownName ?y5_NoRenaming_UnknownName ?y6_NoRenaming_UnknownName ?y7_NoRenaming_UnknownName ?y8_NoRenaming_UnknownName) (kit_ne (by decide) ?za_NoRenaming_UnknownName ?zb_NoRenaming_UnknownName ?zc_NoRenaming_UnknownName) EisB.nil))))), EisX.of m_UnknownMark (EisB.cons k_DuplicateName (ExcC.of ?y1_UnknownMark_DuplicateName ?y2_UnknownMark_DuplicateName ?y3_UnknownMark_DuplicateName ?y4_UnknownMark_DuplicateName ?y5_UnknownMark_DuplicateName ?y6_UnknownMark_DuplicateName ?y7_UnknownMark_DuplicateName ?y8_UnknownMark_DuplicateName) (kit_ne (by decide) ?za_UnknownMark_DuplicateName ?zb_UnknownMark_DuplicateName ?zc_UnknownMark_DuplicateName) (EisB.cons k_InvalidProgram (ExcC.of ?y1_UnknownMark_InvalidProgram ?y2_UnknownMark_InvalidProgram ?y3_UnknownMark_InvalidProgram ?y4_UnknownMark_InvalidProgram ?y5_UnknownMark_InvalidProgram ?y6_UnknownMark_InvalidProgram ?y7_UnknownMark_InvalidProgram ?y8_UnknownMark_InvalidProgram) (kit_ne (by decide) ?za_UnknownMark_InvalidProgram ?zb_UnknownMark_InvalidProgram ?zc_UnknownMark_InvalidProgram) (EisB.cons k_InvalidWord (ExcC.of ?y1_UnknownMark_InvalidWord ?y2_UnknownMark_InvalidWord ?y3_UnknownMark_InvalidWord ?y4_UnknownMark_InvalidWord ?y5_UnknownMark_InvalidWord ?y6_UnknownMark_InvalidWord ?y7_UnknownMark_InvalidWord ?y8_UnknownMark_InvalidWord) (kit_ne (by decide) ?za_UnknownMark_InvalidWord ?zb_UnknownMark_InvalidWord ?zc_UnknownMark_InvalidWord) (EisB.cons k_UnknownMark (ExcC.of ?y1_UnknownMark_UnknownMark ?y2_UnknownMark_UnknownMark ?y3_UnknownMark_UnknownMark ?y4_UnknownMark_UnknownMark ?y5_UnknownMark_UnknownMark ?y6_UnknownMark_UnknownMark ?y7_UnknownMark_UnknownMark ?y8_UnknownMark_UnknownMark) kit_eq (EisB.cons k_UnknownName (ExcC.of ?y1_UnknownMark_UnknownName ?y2_UnknownMark_UnknownName ?y3_UnknownMark_UnknownName ?y4_UnknownMark_UnknownName ?y5_UnknownMark_UnknownName ?y6_UnknownMark_UnknownName ?y7_UnknownMark_UnknownName ?y8_UnknownMark_UnknownName) (kit_ne (by decide) ?za_UnknownMark_UnknownName ?zb_UnknownMark_UnknownName ?zc_UnknownMark_UnknownName) EisB.nil))))), EisX.of m_UnknownName (EisB.cons k_DuplicateName (ExcC.of ?y1_UnknownName_DuplicateName ?y2_UnknownName_DuplicateName ?y3_UnknownName_DuplicateName ?y4_UnknownName_DuplicateName ?y5_UnknownName_DuplicateName ?y6_UnknownName_DuplicateName ?y7_UnknownName_DuplicateName ?y8_UnknownName_DuplicateName) (kit_ne (by decide) ?za_UnknownName_DuplicateName ?zb_UnknownName_DuplicateName ?zc_UnknownName_DuplicateName) (EisB.cons k_InvalidProgram (ExcC.of ?y1_UnknownName_InvalidProgram ?y2_UnknownName_InvalidProgram ?y3_UnknownName_InvalidProgram ?y4_UnknownName_InvalidProgram ?y5_UnknownName_InvalidProgram ?y6_UnknownName_InvalidProgram ?y7_UnknownName_InvalidProgram ?y8_UnknownName_InvalidProgram) (kit_ne (by decide) ?za_UnknownName_InvalidProgram ?zb_UnknownName_InvalidProgram ?zc_UnknownName_InvalidProgram) (EisB.cons k_InvalidWord (ExcC.of ?y1_UnknownName_InvalidWord ?y2_UnknownName_InvalidWord ?y3_UnknownName_InvalidWord ?y4_UnknownName_InvalidWord ?y5_UnknownName_InvalidWord ?y6_UnknownName_InvalidWord ?y7_UnknownName_InvalidWord ?y8_UnknownName_InvalidWord) (kit_ne (by decide) ?za_UnknownName_InvalidWord ?zb_UnknownName_InvalidWord ?zc_UnknownName_InvalidWord) (EisB.cons k_UnknownMark (ExcC.of ?y1_UnknownName_UnknownMark ?y2_UnknownName_UnknownMark ?y3_UnknownName_UnknownMark ?y4_UnknownName_UnknownMark ?y5_UnknownName_UnknownMark ?y6_UnknownName_UnknownMark ?y7_UnknownName_UnknownMark ?y8_UnknownName_UnknownMark) (kit_ne (by decide) ?za_UnknownName_UnknownMark ?zb_UnknownName_UnknownMark ?zc_UnknownName_UnknownMark) (EisB.cons k_UnknownName (ExcC.of ?y1_UnknownName_UnknownName ?y2_UnknownName_UnknownName ?y3_UnknownName_UnknownName ?y4_UnknownName_UnknownName ?y5_UnknownName_UnknownName ?y6_UnknownName_UnknownName ?y7_UnknownName_UnknownName ?y8_UnknownName_UnknownName) kit_eq EisB.nil))))), (EisY.cons k_DuplicateName (ExcC.of ?y1_ValueError_DuplicateName ?y2_ValueError_DuplicateName ?y3_ValueError_DuplicateName ?y4_ValueError_DuplicateName ?y5_ValueError_DuplicateName ?y6_ValueError_DuplicateName ?y7_ValueError_DuplicateName ?y8_ValueError_DuplicateName) rfl ?yh_ValueError_DuplicateName (EisY.cons k_InvalidProgram (ExcC.of ?y1_ValueError_InvalidProgram ?y2_ValueError_InvalidProgram ?y3_ValueError_InvalidProgram ?y4_ValueError_InvalidProgram ?y5_ValueError_InvalidProgram ?y6_ValueError_InvalidProgram ?y7_ValueError_InvalidProgram ?y8_ValueError_InvalidProgram) rfl ?yh_ValueError_InvalidProgram (EisY.cons k_InvalidWord (ExcC.of ?y1_ValueError_InvalidWord ?y2_ValueError_InvalidWord ?y3_ValueError_InvalidWord ?y4_ValueError_InvalidWord ?y5_ValueError_InvalidWord ?y6_ValueError_InvalidWord ?y7_ValueError_InvalidWord ?y8_ValueError_InvalidWord) rfl ?yh_ValueError_InvalidWord (EisY.cons k_UnknownMark (ExcC.of ?y1_ValueError_UnknownMark ?y2_ValueError_UnknownMark ?y3_ValueError_UnknownMark ?y4_ValueError_UnknownMark ?y5_ValueError_UnknownMark ?y6_ValueError_UnknownMark ?y7_ValueError_UnknownMark ?y8_ValueError_UnknownMark) rfl ?yh_ValueError_UnknownMark (EisY.cons k_UnknownName (ExcC.of ?y1_ValueError_UnknownName ?y2_ValueError_UnknownName ?y3_ValueError_UnknownName ?y4_ValueError_UnknownName ?y5_ValueError_UnknownName ?y6_ValueError_UnknownName ?y7_ValueError_UnknownName ?y8_ValueError_UnknownName) rfl ?yh_ValueError_UnknownName EisY.nil))))), CatX.of m_ScopeError (CatB.cons k_DuplicateName (exm_own ?ua_ScopeError_DuplicateName ?ub_ScopeError_DuplicateName ?uc_ScopeError_DuplicateName ?ud_ScopeError_DuplicateName) (CatB.cons k_InvalidProgram (exm_own ?ua_ScopeError_InvalidProgram ?ub_ScopeError_InvalidProgram ?uc_ScopeError_InvalidProgram ?ud_ScopeError_InvalidProgram) (CatB.cons k_InvalidWord (exm_own ?ua_ScopeError_InvalidWord ?ub_ScopeError_InvalidWord ?uc_ScopeError_InvalidWord ?ud_ScopeError_InvalidWord) (CatB.cons k_UnknownMark (exm_own ?ua_ScopeError_UnknownMark ?ub_ScopeError_UnknownMark ?uc_ScopeError_UnknownMark ?ud_ScopeError_UnknownMark) (CatB.cons k_UnknownName (exm_own ?ua_ScopeError_UnknownName ?ub_ScopeError_UnknownName ?uc_ScopeError_UnknownName ?ud_ScopeError_UnknownName) CatB.nil))))), ExfX.of k_InvalidEdit ?ga1_InvalidEdit_index ?ga2_InvalidEdit_index ?ga3_InvalidEdit_index ?ga4_InvalidEdit_index ?ga5_InvalidEdit_index, ExfX.of k_NoRenaming ?ga1_NoRenaming_obstacle ?ga2_NoRenaming_obstacle ?ga3_NoRenaming_obstacle ?ga4_NoRenaming_obstacle ?ga5_NoRenaming_obstacle, NeX.of k_Program ?n1_Program ?n2_Program, PySem.W.mg_none_of KX G ?b_ValueError, PySem.W.mg_none_of KX G ?b_all, PySem.W.mg_none_of KX G ?b_any, PySem.W.mg_none_of KX G ?b_dict, PySem.W.mg_none_of KX G ?b_isinstance, PySem.W.mg_none_of KX G ?b_len, PySem.W.mg_none_of KX G ?b_list, PySem.W.mg_none_of KX G ?b_range, PySem.W.mg_none_of KX G ?b_repr, PySem.W.mg_none_of KX G ?b_set, PySem.W.mg_none_of KX G ?b_sorted, PySem.W.mg_none_of KX G ?b_str, PySem.W.mg_none_of KX G ?b_tuple, cst_str KX G ?c_DIGITS, cst_str KX G ?c_LETTERS, cst_int KX G ?c_MAX_WORD⟩
      (case f_Entry_amount => k_is)
      (case f_Entry_content => k_is)
      (case f_Entry_costs => k_is)
      (case f_Program_blocked => k_is)
      (case f_Program_declared => k_is)
      (case f_Program_outside => k_is)
      (case f_Program_parents => k_is)
      (case f_Program_targets => k_is)
      (case f_Registry_entries => k_is)
      (case f_Registry_events => k_is)
      (case f_Registry_marks => k_is)
      (case i1_Program => k_is)
      (case i2_Program => k_is)
      (case i3_Program => k_is)
      (case i4_Program => k_is)
      (case i5_Program => k_is)
      (case i6_Program => k_is)
      (case x1_DuplicateName => k_is)
      (case x2_DuplicateName => k_exc)
      (case x3_DuplicateName => k_is)
      (case x4_DuplicateName => k_is)
      (case x1_InvalidProgram => k_is)
      (case x2_InvalidProgram => k_exc)
      (case x3_InvalidProgram => k_is)
      (case x4_InvalidProgram => k_is)
      (case x1_InvalidWord => k_is)
      (case x2_InvalidWord => k_exc)
      (case x3_InvalidWord => k_is)
      (case x4_InvalidWord => k_is)
      (case x1_UnknownMark => k_is)
      (case x2_UnknownMark => k_exc)
      (case x3_UnknownMark => k_is)
      (case x4_UnknownMark => k_is)
      (case x1_UnknownName => k_is)
      (case x2_UnknownName => k_exc)
      (case x3_UnknownName => k_is)
      (case x4_UnknownName => k_is)
      (case y1_DuplicateName_UnknownName => k_is)
      (case y2_DuplicateName_UnknownName => k_is)
      (case y3_DuplicateName_UnknownName => k_is)
      (case y4_DuplicateName_UnknownName => k_is)
      (case y5_DuplicateName_UnknownName => k_is)
      (case y6_DuplicateName_UnknownName => k_is)
      (case y7_DuplicateName_UnknownName => k_is)
      (case y8_DuplicateName_UnknownName => k_is)
      (case za_DuplicateName_UnknownName => k_is)
      (case zb_DuplicateName_UnknownName => k_is)
      (case zc_DuplicateName_UnknownName => k_is)
      (case y1_DuplicateName_UnknownMark => k_is)
      (case y2_DuplicateName_UnknownMark => k_is)
      (case y3_DuplicateName_UnknownMark => k_is)
      (case y4_DuplicateName_UnknownMark => k_is)
      (case y5_DuplicateName_UnknownMark => k_is)
      (case y6_DuplicateName_UnknownMark => k_is)
      (case y7_DuplicateName_UnknownMark => k_is)
      (case y8_DuplicateName_UnknownMark => k_is)
      (case za_DuplicateName_UnknownMark => k_is)
      (case zb_DuplicateName_UnknownMark => k_is)
      (case zc_DuplicateName_UnknownMark => k_is)
      (case y1_DuplicateName_InvalidWord => k_is)
      (case y2_DuplicateName_InvalidWord => k_is)
      (case y3_DuplicateName_InvalidWord => k_is)
      (case y4_DuplicateName_InvalidWord => k_is)
      (case y5_DuplicateName_InvalidWord => k_is)
      (case y6_DuplicateName_InvalidWord => k_is)
      (case y7_DuplicateName_InvalidWord => k_is)
      (case y8_DuplicateName_InvalidWord => k_is)
      (case za_DuplicateName_InvalidWord => k_is)
      (case zb_DuplicateName_InvalidWord => k_is)
      (case zc_DuplicateName_InvalidWord => k_is)
      (case y1_DuplicateName_InvalidProgram => k_is)
      (case y2_DuplicateName_InvalidProgram => k_is)
      (case y3_DuplicateName_InvalidProgram => k_is)
      (case y4_DuplicateName_InvalidProgram => k_is)
      (case y5_DuplicateName_InvalidProgram => k_is)
      (case y6_DuplicateName_InvalidProgram => k_is)
      (case y7_DuplicateName_InvalidProgram => k_is)
      (case y8_DuplicateName_InvalidProgram => k_is)
      (case za_DuplicateName_InvalidProgram => k_is)
      (case zb_DuplicateName_InvalidProgram => k_is)
      (case zc_DuplicateName_InvalidProgram => k_is)
      (case y1_DuplicateName_DuplicateName => k_is)
      (case y2_DuplicateName_DuplicateName => k_is)
      (case y3_DuplicateName_DuplicateName => k_is)
      (case y4_DuplicateName_DuplicateName => k_is)
      (case y5_DuplicateName_DuplicateName => k_is)
      (case y6_DuplicateName_DuplicateName => k_is)
      (case y7_DuplicateName_DuplicateName => k_is)
      (case y8_DuplicateName_DuplicateName => k_is)
      (case y1_InvalidCommand_UnknownName => k_is)
      (case y2_InvalidCommand_UnknownName => k_is)
      (case y3_InvalidCommand_UnknownName => k_is)
      (case y4_InvalidCommand_UnknownName => k_is)
      (case y5_InvalidCommand_UnknownName => k_is)
      (case y6_InvalidCommand_UnknownName => k_is)
      (case y7_InvalidCommand_UnknownName => k_is)
      (case y8_InvalidCommand_UnknownName => k_is)
      (case za_InvalidCommand_UnknownName => k_is)
      (case zb_InvalidCommand_UnknownName => k_is)
      (case zc_InvalidCommand_UnknownName => k_is)
      (case y1_InvalidCommand_UnknownMark => k_is)
      (case y2_InvalidCommand_UnknownMark => k_is)
      (case y3_InvalidCommand_UnknownMark => k_is)
      (case y4_InvalidCommand_UnknownMark => k_is)
      (case y5_InvalidCommand_UnknownMark => k_is)
      (case y6_InvalidCommand_UnknownMark => k_is)
      (case y7_InvalidCommand_UnknownMark => k_is)
      (case y8_InvalidCommand_UnknownMark => k_is)
      (case za_InvalidCommand_UnknownMark => k_is)
      (case zb_InvalidCommand_UnknownMark => k_is)
      (case zc_InvalidCommand_UnknownMark => k_is)
      (case y1_InvalidCommand_InvalidWord => k_is)
      (case y2_InvalidCommand_InvalidWord => k_is)
      (case y3_InvalidCommand_InvalidWord => k_is)
      (case y4_InvalidCommand_InvalidWord => k_is)
      (case y5_InvalidCommand_InvalidWord => k_is)
      (case y6_InvalidCommand_InvalidWord => k_is)
      (case y7_InvalidCommand_InvalidWord => k_is)
      (case y8_InvalidCommand_InvalidWord => k_is)
      (case za_InvalidCommand_InvalidWord => k_is)
      (case zb_InvalidCommand_InvalidWord => k_is)
      (case zc_InvalidCommand_InvalidWord => k_is)
      (case y1_InvalidCommand_InvalidProgram => k_is)
      (case y2_InvalidCommand_InvalidProgram => k_is)
      (case y3_InvalidCommand_InvalidProgram => k_is)
      (case y4_InvalidCommand_InvalidProgram => k_is)
      (case y5_InvalidCommand_InvalidProgram => k_is)
      (case y6_InvalidCommand_InvalidProgram => k_is)
      (case y7_InvalidCommand_InvalidProgram => k_is)
      (case y8_InvalidCommand_InvalidProgram => k_is)
      (case za_InvalidCommand_InvalidProgram => k_is)
      (case zb_InvalidCommand_InvalidProgram => k_is)
      (case zc_InvalidCommand_InvalidProgram => k_is)
      (case y1_InvalidCommand_DuplicateName => k_is)
      (case y2_InvalidCommand_DuplicateName => k_is)
      (case y3_InvalidCommand_DuplicateName => k_is)
      (case y4_InvalidCommand_DuplicateName => k_is)
      (case y5_InvalidCommand_DuplicateName => k_is)
      (case y6_InvalidCommand_DuplicateName => k_is)
      (case y7_InvalidCommand_DuplicateName => k_is)
      (case y8_InvalidCommand_DuplicateName => k_is)
      (case za_InvalidCommand_DuplicateName => k_is)
      (case zb_InvalidCommand_DuplicateName => k_is)
      (case zc_InvalidCommand_DuplicateName => k_is)
      (case y1_InvalidEdit_UnknownName => k_is)
      (case y2_InvalidEdit_UnknownName => k_is)
      (case y3_InvalidEdit_UnknownName => k_is)
      (case y4_InvalidEdit_UnknownName => k_is)
      (case y5_InvalidEdit_UnknownName => k_is)
      (case y6_InvalidEdit_UnknownName => k_is)
      (case y7_InvalidEdit_UnknownName => k_is)
      (case y8_InvalidEdit_UnknownName => k_is)
      (case za_InvalidEdit_UnknownName => k_is)
      (case zb_InvalidEdit_UnknownName => k_is)
      (case zc_InvalidEdit_UnknownName => k_is)
      (case y1_InvalidEdit_UnknownMark => k_is)
      (case y2_InvalidEdit_UnknownMark => k_is)
      (case y3_InvalidEdit_UnknownMark => k_is)
      (case y4_InvalidEdit_UnknownMark => k_is)
      (case y5_InvalidEdit_UnknownMark => k_is)
      (case y6_InvalidEdit_UnknownMark => k_is)
      (case y7_InvalidEdit_UnknownMark => k_is)
      (case y8_InvalidEdit_UnknownMark => k_is)
      (case za_InvalidEdit_UnknownMark => k_is)
      (case zb_InvalidEdit_UnknownMark => k_is)
      (case zc_InvalidEdit_UnknownMark => k_is)
      (case y1_InvalidEdit_InvalidWord => k_is)
      (case y2_InvalidEdit_InvalidWord => k_is)
      (case y3_InvalidEdit_InvalidWord => k_is)
      (case y4_InvalidEdit_InvalidWord => k_is)
      (case y5_InvalidEdit_InvalidWord => k_is)
      (case y6_InvalidEdit_InvalidWord => k_is)
      (case y7_InvalidEdit_InvalidWord => k_is)
      (case y8_InvalidEdit_InvalidWord => k_is)
      (case za_InvalidEdit_InvalidWord => k_is)
      (case zb_InvalidEdit_InvalidWord => k_is)
      (case zc_InvalidEdit_InvalidWord => k_is)
      (case y1_InvalidEdit_InvalidProgram => k_is)
      (case y2_InvalidEdit_InvalidProgram => k_is)
      (case y3_InvalidEdit_InvalidProgram => k_is)
      (case y4_InvalidEdit_InvalidProgram => k_is)
      (case y5_InvalidEdit_InvalidProgram => k_is)
      (case y6_InvalidEdit_InvalidProgram => k_is)
      (case y7_InvalidEdit_InvalidProgram => k_is)
      (case y8_InvalidEdit_InvalidProgram => k_is)
      (case za_InvalidEdit_InvalidProgram => k_is)
      (case zb_InvalidEdit_InvalidProgram => k_is)
      (case zc_InvalidEdit_InvalidProgram => k_is)
      (case y1_InvalidEdit_DuplicateName => k_is)
      (case y2_InvalidEdit_DuplicateName => k_is)
      (case y3_InvalidEdit_DuplicateName => k_is)
      (case y4_InvalidEdit_DuplicateName => k_is)
      (case y5_InvalidEdit_DuplicateName => k_is)
      (case y6_InvalidEdit_DuplicateName => k_is)
      (case y7_InvalidEdit_DuplicateName => k_is)
      (case y8_InvalidEdit_DuplicateName => k_is)
      (case za_InvalidEdit_DuplicateName => k_is)
      (case zb_InvalidEdit_DuplicateName => k_is)
      (case zc_InvalidEdit_DuplicateName => k_is)
      (case y1_InvalidKept_UnknownName => k_is)
      (case y2_InvalidKept_UnknownName => k_is)
      (case y3_InvalidKept_UnknownName => k_is)
      (case y4_InvalidKept_UnknownName => k_is)
      (case y5_InvalidKept_UnknownName => k_is)
      (case y6_InvalidKept_UnknownName => k_is)
      (case y7_InvalidKept_UnknownName => k_is)
      (case y8_InvalidKept_UnknownName => k_is)
      (case za_InvalidKept_UnknownName => k_is)
      (case zb_InvalidKept_UnknownName => k_is)
      (case zc_InvalidKept_UnknownName => k_is)
      (case y1_InvalidKept_UnknownMark => k_is)
      (case y2_InvalidKept_UnknownMark => k_is)
      (case y3_InvalidKept_UnknownMark => k_is)
      (case y4_InvalidKept_UnknownMark => k_is)
      (case y5_InvalidKept_UnknownMark => k_is)
      (case y6_InvalidKept_UnknownMark => k_is)
      (case y7_InvalidKept_UnknownMark => k_is)
      (case y8_InvalidKept_UnknownMark => k_is)
      (case za_InvalidKept_UnknownMark => k_is)
      (case zb_InvalidKept_UnknownMark => k_is)
      (case zc_InvalidKept_UnknownMark => k_is)
      (case y1_InvalidKept_InvalidWord => k_is)
      (case y2_InvalidKept_InvalidWord => k_is)
      (case y3_InvalidKept_InvalidWord => k_is)
      (case y4_InvalidKept_InvalidWord => k_is)
      (case y5_InvalidKept_InvalidWord => k_is)
      (case y6_InvalidKept_InvalidWord => k_is)
      (case y7_InvalidKept_InvalidWord => k_is)
      (case y8_InvalidKept_InvalidWord => k_is)
      (case za_InvalidKept_InvalidWord => k_is)
      (case zb_InvalidKept_InvalidWord => k_is)
      (case zc_InvalidKept_InvalidWord => k_is)
      (case y1_InvalidKept_InvalidProgram => k_is)
      (case y2_InvalidKept_InvalidProgram => k_is)
      (case y3_InvalidKept_InvalidProgram => k_is)
      (case y4_InvalidKept_InvalidProgram => k_is)
      (case y5_InvalidKept_InvalidProgram => k_is)
      (case y6_InvalidKept_InvalidProgram => k_is)
      (case y7_InvalidKept_InvalidProgram => k_is)
      (case y8_InvalidKept_InvalidProgram => k_is)
      (case za_InvalidKept_InvalidProgram => k_is)
      (case zb_InvalidKept_InvalidProgram => k_is)
      (case zc_InvalidKept_InvalidProgram => k_is)
      (case y1_InvalidKept_DuplicateName => k_is)
      (case y2_InvalidKept_DuplicateName => k_is)
      (case y3_InvalidKept_DuplicateName => k_is)
      (case y4_InvalidKept_DuplicateName => k_is)
      (case y5_InvalidKept_DuplicateName => k_is)
      (case y6_InvalidKept_DuplicateName => k_is)
      (case y7_InvalidKept_DuplicateName => k_is)
      (case y8_InvalidKept_DuplicateName => k_is)
      (case za_InvalidKept_DuplicateName => k_is)
      (case zb_InvalidKept_DuplicateName => k_is)
      (case zc_InvalidKept_DuplicateName => k_is)
      (case y1_InvalidPrices_UnknownName => k_is)
      (case y2_InvalidPrices_UnknownName => k_is)
      (case y3_InvalidPrices_UnknownName => k_is)
      (case y4_InvalidPrices_UnknownName => k_is)
      (case y5_InvalidPrices_UnknownName => k_is)
      (case y6_InvalidPrices_UnknownName => k_is)
      (case y7_InvalidPrices_UnknownName => k_is)
      (case y8_InvalidPrices_UnknownName => k_is)
      (case za_InvalidPrices_UnknownName => k_is)
      (case zb_InvalidPrices_UnknownName => k_is)
      (case zc_InvalidPrices_UnknownName => k_is)
      (case y1_InvalidPrices_UnknownMark => k_is)
      (case y2_InvalidPrices_UnknownMark => k_is)
      (case y3_InvalidPrices_UnknownMark => k_is)
      (case y4_InvalidPrices_UnknownMark => k_is)
      (case y5_InvalidPrices_UnknownMark => k_is)
      (case y6_InvalidPrices_UnknownMark => k_is)
      (case y7_InvalidPrices_UnknownMark => k_is)
      (case y8_InvalidPrices_UnknownMark => k_is)
      (case za_InvalidPrices_UnknownMark => k_is)
      (case zb_InvalidPrices_UnknownMark => k_is)
      (case zc_InvalidPrices_UnknownMark => k_is)
      (case y1_InvalidPrices_InvalidWord => k_is)
      (case y2_InvalidPrices_InvalidWord => k_is)
      (case y3_InvalidPrices_InvalidWord => k_is)
      (case y4_InvalidPrices_InvalidWord => k_is)
      (case y5_InvalidPrices_InvalidWord => k_is)
      (case y6_InvalidPrices_InvalidWord => k_is)
      (case y7_InvalidPrices_InvalidWord => k_is)
      (case y8_InvalidPrices_InvalidWord => k_is)
      (case za_InvalidPrices_InvalidWord => k_is)
      (case zb_InvalidPrices_InvalidWord => k_is)
      (case zc_InvalidPrices_InvalidWord => k_is)
      (case y1_InvalidPrices_InvalidProgram => k_is)
      (case y2_InvalidPrices_InvalidProgram => k_is)
      (case y3_InvalidPrices_InvalidProgram => k_is)
      (case y4_InvalidPrices_InvalidProgram => k_is)
      (case y5_InvalidPrices_InvalidProgram => k_is)
      (case y6_InvalidPrices_InvalidProgram => k_is)
      (case y7_InvalidPrices_InvalidProgram => k_is)
      (case y8_InvalidPrices_InvalidProgram => k_is)
      (case za_InvalidPrices_InvalidProgram => k_is)
      (case zb_InvalidPrices_InvalidProgram => k_is)
      (case zc_InvalidPrices_InvalidProgram => k_is)
      (case y1_InvalidPrices_DuplicateName => k_is)
      (case y2_InvalidPrices_DuplicateName => k_is)
      (case y3_InvalidPrices_DuplicateName => k_is)
      (case y4_InvalidPrices_DuplicateName => k_is)
      (case y5_InvalidPrices_DuplicateName => k_is)
      (case y6_InvalidPrices_DuplicateName => k_is)
      (case y7_InvalidPrices_DuplicateName => k_is)
      (case y8_InvalidPrices_DuplicateName => k_is)
      (case za_InvalidPrices_DuplicateName => k_is)
      (case zb_InvalidPrices_DuplicateName => k_is)
      (case zc_InvalidPrices_DuplicateName => k_is)
      (case y1_InvalidProgram_UnknownName => k_is)
      (case y2_InvalidProgram_UnknownName => k_is)
      (case y3_InvalidProgram_UnknownName => k_is)
      (case y4_InvalidProgram_UnknownName => k_is)
      (case y5_InvalidProgram_UnknownName => k_is)
      (case y6_InvalidProgram_UnknownName => k_is)
      (case y7_InvalidProgram_UnknownName => k_is)
      (case y8_InvalidProgram_UnknownName => k_is)
      (case za_InvalidProgram_UnknownName => k_is)
      (case zb_InvalidProgram_UnknownName => k_is)
      (case zc_InvalidProgram_UnknownName => k_is)
      (case y1_InvalidProgram_UnknownMark => k_is)
      (case y2_InvalidProgram_UnknownMark => k_is)
      (case y3_InvalidProgram_UnknownMark => k_is)
      (case y4_InvalidProgram_UnknownMark => k_is)
      (case y5_InvalidProgram_UnknownMark => k_is)
      (case y6_InvalidProgram_UnknownMark => k_is)
      (case y7_InvalidProgram_UnknownMark => k_is)
      (case y8_InvalidProgram_UnknownMark => k_is)
      (case za_InvalidProgram_UnknownMark => k_is)
      (case zb_InvalidProgram_UnknownMark => k_is)
      (case zc_InvalidProgram_UnknownMark => k_is)
      (case y1_InvalidProgram_InvalidWord => k_is)
      (case y2_InvalidProgram_InvalidWord => k_is)
      (case y3_InvalidProgram_InvalidWord => k_is)
      (case y4_InvalidProgram_InvalidWord => k_is)
      (case y5_InvalidProgram_InvalidWord => k_is)
      (case y6_InvalidProgram_InvalidWord => k_is)
      (case y7_InvalidProgram_InvalidWord => k_is)
      (case y8_InvalidProgram_InvalidWord => k_is)
      (case za_InvalidProgram_InvalidWord => k_is)
      (case zb_InvalidProgram_InvalidWord => k_is)
      (case zc_InvalidProgram_InvalidWord => k_is)
      (case y1_InvalidProgram_InvalidProgram => k_is)
      (case y2_InvalidProgram_InvalidProgram => k_is)
      (case y3_InvalidProgram_InvalidProgram => k_is)
      (case y4_InvalidProgram_InvalidProgram => k_is)
      (case y5_InvalidProgram_InvalidProgram => k_is)
      (case y6_InvalidProgram_InvalidProgram => k_is)
      (case y7_InvalidProgram_InvalidProgram => k_is)
      (case y8_InvalidProgram_InvalidProgram => k_is)
      (case y1_InvalidProgram_DuplicateName => k_is)
      (case y2_InvalidProgram_DuplicateName => k_is)
      (case y3_InvalidProgram_DuplicateName => k_is)
      (case y4_InvalidProgram_DuplicateName => k_is)
      (case y5_InvalidProgram_DuplicateName => k_is)
      (case y6_InvalidProgram_DuplicateName => k_is)
      (case y7_InvalidProgram_DuplicateName => k_is)
      (case y8_InvalidProgram_DuplicateName => k_is)
      (case za_InvalidProgram_DuplicateName => k_is)
      (case zb_InvalidProgram_DuplicateName => k_is)
      (case zc_InvalidProgram_DuplicateName => k_is)
      (case y1_InvalidWord_UnknownName => k_is)
      (case y2_InvalidWord_UnknownName => k_is)
      (case y3_InvalidWord_UnknownName => k_is)
      (case y4_InvalidWord_UnknownName => k_is)
      (case y5_InvalidWord_UnknownName => k_is)
      (case y6_InvalidWord_UnknownName => k_is)
      (case y7_InvalidWord_UnknownName => k_is)
      (case y8_InvalidWord_UnknownName => k_is)
      (case za_InvalidWord_UnknownName => k_is)
      (case zb_InvalidWord_UnknownName => k_is)
      (case zc_InvalidWord_UnknownName => k_is)
      (case y1_InvalidWord_UnknownMark => k_is)
      (case y2_InvalidWord_UnknownMark => k_is)
      (case y3_InvalidWord_UnknownMark => k_is)
      (case y4_InvalidWord_UnknownMark => k_is)
      (case y5_InvalidWord_UnknownMark => k_is)
      (case y6_InvalidWord_UnknownMark => k_is)
      (case y7_InvalidWord_UnknownMark => k_is)
      (case y8_InvalidWord_UnknownMark => k_is)
      (case za_InvalidWord_UnknownMark => k_is)
      (case zb_InvalidWord_UnknownMark => k_is)
      (case zc_InvalidWord_UnknownMark => k_is)
      (case y1_InvalidWord_InvalidWord => k_is)
      (case y2_InvalidWord_InvalidWord => k_is)
      (case y3_InvalidWord_InvalidWord => k_is)
      (case y4_InvalidWord_InvalidWord => k_is)
      (case y5_InvalidWord_InvalidWord => k_is)
      (case y6_InvalidWord_InvalidWord => k_is)
      (case y7_InvalidWord_InvalidWord => k_is)
      (case y8_InvalidWord_InvalidWord => k_is)
      (case y1_InvalidWord_InvalidProgram => k_is)
      (case y2_InvalidWord_InvalidProgram => k_is)
      (case y3_InvalidWord_InvalidProgram => k_is)
      (case y4_InvalidWord_InvalidProgram => k_is)
      (case y5_InvalidWord_InvalidProgram => k_is)
      (case y6_InvalidWord_InvalidProgram => k_is)
      (case y7_InvalidWord_InvalidProgram => k_is)
      (case y8_InvalidWord_InvalidProgram => k_is)
      (case za_InvalidWord_InvalidProgram => k_is)
      (case zb_InvalidWord_InvalidProgram => k_is)
      (case zc_InvalidWord_InvalidProgram => k_is)
      (case y1_InvalidWord_DuplicateName => k_is)
      (case y2_InvalidWord_DuplicateName => k_is)
      (case y3_InvalidWord_DuplicateName => k_is)
      (case y4_InvalidWord_DuplicateName => k_is)
      (case y5_InvalidWord_DuplicateName => k_is)
      (case y6_InvalidWord_DuplicateName => k_is)
      (case y7_InvalidWord_DuplicateName => k_is)
      (case y8_InvalidWord_DuplicateName => k_is)
      (case za_InvalidWord_DuplicateName => k_is)
      (case zb_InvalidWord_DuplicateName => k_is)
      (case zc_InvalidWord_DuplicateName => k_is)
      (case y1_NoRenaming_UnknownName => k_is)
      (case y2_NoRenaming_UnknownName => k_is)
      (case y3_NoRenaming_UnknownName => k_is)
      (case y4_NoRenaming_UnknownName => k_is)
      (case y5_NoRenaming_UnknownName => k_is)
      (case y6_NoRenaming_UnknownName => k_is)
      (case y7_NoRenaming_UnknownName => k_is)
      (case y8_NoRenaming_UnknownName => k_is)
      (case za_NoRenaming_UnknownName => k_is)
      (case zb_NoRenaming_UnknownName => k_is)
      (case zc_NoRenaming_UnknownName => k_is)
      (case y1_NoRenaming_UnknownMark => k_is)
      (case y2_NoRenaming_UnknownMark => k_is)
      (case y3_NoRenaming_UnknownMark => k_is)
      (case y4_NoRenaming_UnknownMark => k_is)
      (case y5_NoRenaming_UnknownMark => k_is)
      (case y6_NoRenaming_UnknownMark => k_is)
      (case y7_NoRenaming_UnknownMark => k_is)
      (case y8_NoRenaming_UnknownMark => k_is)
      (case za_NoRenaming_UnknownMark => k_is)
      (case zb_NoRenaming_UnknownMark => k_is)
      (case zc_NoRenaming_UnknownMark => k_is)
      (case y1_NoRenaming_InvalidWord => k_is)
      (case y2_NoRenaming_InvalidWord => k_is)
      (case y3_NoRenaming_InvalidWord => k_is)
      (case y4_NoRenaming_InvalidWord => k_is)
      (case y5_NoRenaming_InvalidWord => k_is)
      (case y6_NoRenaming_InvalidWord => k_is)
      (case y7_NoRenaming_InvalidWord => k_is)
      (case y8_NoRenaming_InvalidWord => k_is)
      (case za_NoRenaming_InvalidWord => k_is)
      (case zb_NoRenaming_InvalidWord => k_is)
      (case zc_NoRenaming_InvalidWord => k_is)
      (case y1_NoRenaming_InvalidProgram => k_is)
      (case y2_NoRenaming_InvalidProgram => k_is)
      (case y3_NoRenaming_InvalidProgram => k_is)
      (case y4_NoRenaming_InvalidProgram => k_is)
      (case y5_NoRenaming_InvalidProgram => k_is)
      (case y6_NoRenaming_InvalidProgram => k_is)
      (case y7_NoRenaming_InvalidProgram => k_is)
      (case y8_NoRenaming_InvalidProgram => k_is)
      (case za_NoRenaming_InvalidProgram => k_is)
      (case zb_NoRenaming_InvalidProgram => k_is)
      (case zc_NoRenaming_InvalidProgram => k_is)
      (case y1_NoRenaming_DuplicateName => k_is)
      (case y2_NoRenaming_DuplicateName => k_is)
      (case y3_NoRenaming_DuplicateName => k_is)
      (case y4_NoRenaming_DuplicateName => k_is)
      (case y5_NoRenaming_DuplicateName => k_is)
      (case y6_NoRenaming_DuplicateName => k_is)
      (case y7_NoRenaming_DuplicateName => k_is)
      (case y8_NoRenaming_DuplicateName => k_is)
      (case za_NoRenaming_DuplicateName => k_is)
      (case zb_NoRenaming_DuplicateName => k_is)
      (case zc_NoRenaming_DuplicateName => k_is)
      (case y1_UnknownMark_UnknownName => k_is)
      (case y2_UnknownMark_UnknownName => k_is)
      (case y3_UnknownMark_UnknownName => k_is)
      (case y4_UnknownMark_UnknownName => k_is)
      (case y5_UnknownMark_UnknownName => k_is)
      (case y6_UnknownMark_UnknownName => k_is)
      (case y7_UnknownMark_UnknownName => k_is)
      (case y8_UnknownMark_UnknownName => k_is)
      (case za_UnknownMark_UnknownName => k_is)
      (case zb_UnknownMark_UnknownName => k_is)
      (case zc_UnknownMark_UnknownName => k_is)
      (case y1_UnknownMark_UnknownMark => k_is)
      (case y2_UnknownMark_UnknownMark => k_is)
      (case y3_UnknownMark_UnknownMark => k_is)
      (case y4_UnknownMark_UnknownMark => k_is)
      (case y5_UnknownMark_UnknownMark => k_is)
      (case y6_UnknownMark_UnknownMark => k_is)
      (case y7_UnknownMark_UnknownMark => k_is)
      (case y8_UnknownMark_UnknownMark => k_is)
      (case y1_UnknownMark_InvalidWord => k_is)
      (case y2_UnknownMark_InvalidWord => k_is)
      (case y3_UnknownMark_InvalidWord => k_is)
      (case y4_UnknownMark_InvalidWord => k_is)
      (case y5_UnknownMark_InvalidWord => k_is)
      (case y6_UnknownMark_InvalidWord => k_is)
      (case y7_UnknownMark_InvalidWord => k_is)
      (case y8_UnknownMark_InvalidWord => k_is)
      (case za_UnknownMark_InvalidWord => k_is)
      (case zb_UnknownMark_InvalidWord => k_is)
      (case zc_UnknownMark_InvalidWord => k_is)
      (case y1_UnknownMark_InvalidProgram => k_is)
      (case y2_UnknownMark_InvalidProgram => k_is)
      (case y3_UnknownMark_InvalidProgram => k_is)
      (case y4_UnknownMark_InvalidProgram => k_is)
      (case y5_UnknownMark_InvalidProgram => k_is)
      (case y6_UnknownMark_InvalidProgram => k_is)
      (case y7_UnknownMark_InvalidProgram => k_is)
      (case y8_UnknownMark_InvalidProgram => k_is)
      (case za_UnknownMark_InvalidProgram => k_is)
      (case zb_UnknownMark_InvalidProgram => k_is)
      (case zc_UnknownMark_InvalidProgram => k_is)
      (case y1_UnknownMark_DuplicateName => k_is)
      (case y2_UnknownMark_DuplicateName => k_is)
      (case y3_UnknownMark_DuplicateName => k_is)
      (case y4_UnknownMark_DuplicateName => k_is)
      (case y5_UnknownMark_DuplicateName => k_is)
      (case y6_UnknownMark_DuplicateName => k_is)
      (case y7_UnknownMark_DuplicateName => k_is)
      (case y8_UnknownMark_DuplicateName => k_is)
      (case za_UnknownMark_DuplicateName => k_is)
      (case zb_UnknownMark_DuplicateName => k_is)
      (case zc_UnknownMark_DuplicateName => k_is)
      (case y1_UnknownName_UnknownName => k_is)
      (case y2_UnknownName_UnknownName => k_is)
      (case y3_UnknownName_UnknownName => k_is)
      (case y4_UnknownName_UnknownName => k_is)
      (case y5_UnknownName_UnknownName => k_is)
      (case y6_UnknownName_UnknownName => k_is)
      (case y7_UnknownName_UnknownName => k_is)
      (case y8_UnknownName_UnknownName => k_is)
      (case y1_UnknownName_UnknownMark => k_is)
      (case y2_UnknownName_UnknownMark => k_is)
      (case y3_UnknownName_UnknownMark => k_is)
      (case y4_UnknownName_UnknownMark => k_is)
      (case y5_UnknownName_UnknownMark => k_is)
      (case y6_UnknownName_UnknownMark => k_is)
      (case y7_UnknownName_UnknownMark => k_is)
      (case y8_UnknownName_UnknownMark => k_is)
      (case za_UnknownName_UnknownMark => k_is)
      (case zb_UnknownName_UnknownMark => k_is)
      (case zc_UnknownName_UnknownMark => k_is)
      (case y1_UnknownName_InvalidWord => k_is)
      (case y2_UnknownName_InvalidWord => k_is)
      (case y3_UnknownName_InvalidWord => k_is)
      (case y4_UnknownName_InvalidWord => k_is)
      (case y5_UnknownName_InvalidWord => k_is)
      (case y6_UnknownName_InvalidWord => k_is)
      (case y7_UnknownName_InvalidWord => k_is)
      (case y8_UnknownName_InvalidWord => k_is)
      (case za_UnknownName_InvalidWord => k_is)
      (case zb_UnknownName_InvalidWord => k_is)
      (case zc_UnknownName_InvalidWord => k_is)
      (case y1_UnknownName_InvalidProgram => k_is)
      (case y2_UnknownName_InvalidProgram => k_is)
      (case y3_UnknownName_InvalidProgram => k_is)
      (case y4_UnknownName_InvalidProgram => k_is)
      (case y5_UnknownName_InvalidProgram => k_is)
      (case y6_UnknownName_InvalidProgram => k_is)
      (case y7_UnknownName_InvalidProgram => k_is)
      (case y8_UnknownName_InvalidProgram => k_is)
      (case za_UnknownName_InvalidProgram => k_is)
      (case zb_UnknownName_InvalidProgram => k_is)
      (case zc_UnknownName_InvalidProgram => k_is)
      (case y1_UnknownName_DuplicateName => k_is)
      (case y2_UnknownName_DuplicateName => k_is)
      (case y3_UnknownName_DuplicateName => k_is)
      (case y4_UnknownName_DuplicateName => k_is)
      (case y5_UnknownName_DuplicateName => k_is)
      (case y6_UnknownName_DuplicateName => k_is)
      (case y7_UnknownName_DuplicateName => k_is)
      (case y8_UnknownName_DuplicateName => k_is)
      (case za_UnknownName_DuplicateName => k_is)
      (case zb_UnknownName_DuplicateName => k_is)
      (case zc_UnknownName_DuplicateName => k_is)
      (case y1_ValueError_UnknownName => k_is)
      (case y2_ValueError_UnknownName => k_is)
      (case y3_ValueError_UnknownName => k_is)
      (case y4_ValueError_UnknownName => k_is)
      (case y5_ValueError_UnknownName => k_is)
      (case y6_ValueError_UnknownName => k_is)
      (case y7_ValueError_UnknownName => k_is)
      (case y8_ValueError_UnknownName => k_is)
      (case yh_ValueError_UnknownName => k_is)
      (case y1_ValueError_UnknownMark => k_is)
      (case y2_ValueError_UnknownMark => k_is)
      (case y3_ValueError_UnknownMark => k_is)
      (case y4_ValueError_UnknownMark => k_is)
      (case y5_ValueError_UnknownMark => k_is)
      (case y6_ValueError_UnknownMark => k_is)
      (case y7_ValueError_UnknownMark => k_is)
      (case y8_ValueError_UnknownMark => k_is)
      (case yh_ValueError_UnknownMark => k_is)
      (case y1_ValueError_InvalidWord => k_is)
      (case y2_ValueError_InvalidWord => k_is)
      (case y3_ValueError_InvalidWord => k_is)
      (case y4_ValueError_InvalidWord => k_is)
      (case y5_ValueError_InvalidWord => k_is)
      (case y6_ValueError_InvalidWord => k_is)
      (case y7_ValueError_InvalidWord => k_is)
      (case y8_ValueError_InvalidWord => k_is)
      (case yh_ValueError_InvalidWord => k_is)
      (case y1_ValueError_InvalidProgram => k_is)
      (case y2_ValueError_InvalidProgram => k_is)
      (case y3_ValueError_InvalidProgram => k_is)
      (case y4_ValueError_InvalidProgram => k_is)
      (case y5_ValueError_InvalidProgram => k_is)
      (case y6_ValueError_InvalidProgram => k_is)
      (case y7_ValueError_InvalidProgram => k_is)
      (case y8_ValueError_InvalidProgram => k_is)
      (case yh_ValueError_InvalidProgram => k_is)
      (case y1_ValueError_DuplicateName => k_is)
      (case y2_ValueError_DuplicateName => k_is)
      (case y3_ValueError_DuplicateName => k_is)
      (case y4_ValueError_DuplicateName => k_is)
      (case y5_ValueError_DuplicateName => k_is)
      (case y6_ValueError_DuplicateName => k_is)
      (case y7_ValueError_DuplicateName => k_is)
      (case y8_ValueError_DuplicateName => k_is)
      (case yh_ValueError_DuplicateName => k_is)
      (case ua_ScopeError_UnknownName => k_is)
      (case ub_ScopeError_UnknownName => k_is)
      (case uc_ScopeError_UnknownName => k_is)
      (case ud_ScopeError_UnknownName => k_is)
      (case ua_ScopeError_UnknownMark => k_is)
      (case ub_ScopeError_UnknownMark => k_is)
      (case uc_ScopeError_UnknownMark => k_is)
      (case ud_ScopeError_UnknownMark => k_is)
      (case ua_ScopeError_InvalidWord => k_is)
      (case ub_ScopeError_InvalidWord => k_is)
      (case uc_ScopeError_InvalidWord => k_is)
      (case ud_ScopeError_InvalidWord => k_is)
      (case ua_ScopeError_InvalidProgram => k_is)
      (case ub_ScopeError_InvalidProgram => k_is)
      (case uc_ScopeError_InvalidProgram => k_is)
      (case ud_ScopeError_InvalidProgram => k_is)
      (case ua_ScopeError_DuplicateName => k_is)
      (case ub_ScopeError_DuplicateName => k_is)
      (case uc_ScopeError_DuplicateName => k_is)
      (case ud_ScopeError_DuplicateName => k_is)
      (case ga1_InvalidEdit_index => k_is)
      (case ga2_InvalidEdit_index => k_is)
      (case ga3_InvalidEdit_index => k_is)
      (case ga4_InvalidEdit_index => k_is)
      (case ga5_InvalidEdit_index => k_is)
      (case ga1_NoRenaming_obstacle => k_is)
      (case ga2_NoRenaming_obstacle => k_is)
      (case ga3_NoRenaming_obstacle => k_is)
      (case ga4_NoRenaming_obstacle => k_is)
      (case ga5_NoRenaming_obstacle => k_is)
      (case n1_Program => k_is)
      (case n2_Program => k_is)
      (case b_ValueError => k_is)
      (case b_all => k_is)
      (case b_any => k_is)
      (case b_dict => k_is)
      (case b_isinstance => k_is)
      (case b_len => k_is)
      (case b_list => k_is)
      (case b_range => k_is)
      (case b_repr => k_is)
      (case b_set => k_is)
      (case b_sorted => k_is)
      (case b_str => k_is)
      (case b_tuple => k_is)
      (case c_DIGITS => k_is)
      (case c_LETTERS => k_is)
      (case c_MAX_WORD => k_is)
    refine' FnMe.ofC "Registry" "get_log" "Registry.get_log" Lk59.s_Registry_get_log ["self"] k_Registry h_Registry (fun _ _ _ _ _ _ us hl => match us, hl with | [_], _ => rfl) ?a ?i ?l ?c ?k (fun F_Registry_get_log => ?r_Registry_get_log)
    (case a => k_is)
    (case i => k_is)
    (case l => k_is)
    (case c => k_is)
    (case k => k_is)
    refine' FnMk.ofC "Registry" "Registry.__init__" Lk59.s_Registry___init__ ["self"] k_Registry m_Registry (fun _ _ _ _ _ _ us hl => match us, hl with | [_], _ => rfl) ?mk ?kp ?a ?i ?l ?c ?k (fun F_Registry___init__ => ?r_Registry___init__)
    (case mk => k_is)
    (case kp => k_is)
    (case a => k_is)
    (case i => k_is)
    (case l => k_is)
    (case c => k_is)
    (case k => k_is)
    refine' FnMe.ofC "Registry" "get_names" "Registry.get_names" Lk59.s_Registry_get_names ["self"] k_Registry h_Registry (fun _ _ _ _ _ _ us hl => match us, hl with | [_], _ => rfl) ?a ?i ?l ?c ?k (fun F_Registry_get_names => ?r_Registry_get_names)
    (case a => k_is)
    (case i => k_is)
    (case l => k_is)
    (case c => k_is)
    (case k => k_is)
    refine' FnMe.ofC "Registry" "logged" "Registry.logged" Lk59.s_Registry_logged ["self", "command", "action"] k_Registry h_Registry (fun _ _ _ _ _ _ us hl => match us, hl with | [_, _, _], _ => rfl) ?a ?i ?l ?c ?k (fun F_Registry_logged => ?r_Registry_logged)
    (case a => k_is)
    (case i => k_is)
    (case l => k_is)
    (case c => k_is)
    (case k => k_is)
    refine' FnMe.ofC "Registry" "do_back" "Registry.do_back" Lk59.s_Registry_do_back ["self", "label"] k_Registry h_Registry (fun _ _ _ _ _ _ us hl => match us, hl with | [_, _], _ => rfl) ?a ?i ?l ?c ?k (fun F_Registry_do_back => ?r_Registry_do_back)
    (case a => k_is)
    (case i => k_is)
    (case l => k_is)
    (case c => k_is)
    (case k => k_is)
    refine' FnMe.ofC "Registry" "back" "Registry.back" Lk59.s_Registry_back ["self", "label"] k_Registry h_Registry (fun _ _ _ _ _ _ us hl => match us, hl with | [_, _], _ => rfl) ?a ?i ?l ?c ?k (fun F_Registry_back => ?r_Registry_back)
    (case a => k_is)
    (case i => k_is)
    (case l => k_is)
    (case c => k_is)
    (case k => k_is)
    refine' FnAt.ofC "is_word" Lk59.s_is_word ["thing"] KX G (fun _ _ _ _ _ _ us hl => match us, hl with | [_], _ => rfl) ?a ?l ?c ?k (fun F_is_word => ?r_is_word)
    (case a => k_is)
    (case l => k_is)
    (case c => k_is)
    (case k => k_is)
    refine' FnAt.ofC "check_new" Lk59.s_check_new ["name", "existing"] KX G (fun _ _ _ _ _ _ us hl => match us, hl with | [_, _], _ => rfl) ?a ?l ?c ?k (fun F_check_new => ?r_check_new)
    (case a => k_is)
    (case l => k_is)
    (case c => k_is)
    (case k => k_is)
    refine' FnMe.ofC "Registry" "do_mark" "Registry.do_mark" Lk59.s_Registry_do_mark ["self", "label"] k_Registry h_Registry (fun _ _ _ _ _ _ us hl => match us, hl with | [_, _], _ => rfl) ?a ?i ?l ?c ?k (fun F_Registry_do_mark => ?r_Registry_do_mark)
    (case a => k_is)
    (case i => k_is)
    (case l => k_is)
    (case c => k_is)
    (case k => k_is)
    refine' FnMe.ofC "Registry" "mark" "Registry.mark" Lk59.s_Registry_mark ["self", "label"] k_Registry h_Registry (fun _ _ _ _ _ _ us hl => match us, hl with | [_, _], _ => rfl) ?a ?i ?l ?c ?k (fun F_Registry_mark => ?r_Registry_mark)
    (case a => k_is)
    (case i => k_is)
    (case l => k_is)
    (case c => k_is)
    (case k => k_is)
    refine' FnMk.ofC "Entry" "Entry.__init__" Lk59.s_Entry___init__ ["self", "content", "costs", "amount"] k_Entry m_Entry (fun _ _ _ _ _ _ us hl => match us, hl with | [_, _, _, _], _ => rfl) ?mk ?kp ?a ?i ?l ?c ?k (fun F_Entry___init__ => ?r_Entry___init__)
    (case mk => k_is)
    (case kp => k_is)
    (case a => k_is)
    (case i => k_is)
    (case l => k_is)
    (case c => k_is)
    (case k => k_is)
    refine' FnAt.ofC "ascending" Lk59.s_ascending ["table"] KX G (fun _ _ _ _ _ _ us hl => match us, hl with | [_], _ => rfl) ?a ?l ?c ?k (fun F_ascending => ?r_ascending)
    (case a => k_is)
    (case l => k_is)
    (case c => k_is)
    (case k => k_is)
    refine' FnAt.ofC "are_words" Lk59.s_are_words ["thing"] KX G (fun _ _ _ _ _ _ us hl => match us, hl with | [_], _ => rfl) ?a ?l ?c ?k (fun F_are_words => ?r_are_words)
    (case a => k_is)
    (case l => k_is)
    (case c => k_is)
    (case k => k_is)
    refine' FnAt.ofC "is_key" Lk59.s_is_key ["table", "thing"] KX G (fun _ _ _ _ _ _ us hl => match us, hl with | [_, _], _ => rfl) ?a ?l ?c ?k (fun F_is_key => ?r_is_key)
    (case a => k_is)
    (case l => k_is)
    (case c => k_is)
    (case k => k_is)
    refine' FnAt.ofC "is_pair" Lk59.s_is_pair ["thing"] KX G (fun _ _ _ _ _ _ us hl => match us, hl with | [_], _ => rfl) ?a ?l ?c ?k (fun F_is_pair => ?r_is_pair)
    (case a => k_is)
    (case l => k_is)
    (case c => k_is)
    (case k => k_is)
    refine' FnAt.ofC "are_bindings" Lk59.s_are_bindings ["scopes", "thing"] KX G (fun _ _ _ _ _ _ us hl => match us, hl with | [_, _], _ => rfl) ?a ?l ?c ?k (fun F_are_bindings => ?r_are_bindings)
    (case a => k_is)
    (case l => k_is)
    (case c => k_is)
    (case k => k_is)
    refine' FnAt.ofC "way_out" Lk59.s_way_out ["scopes", "scope"] KX G (fun _ _ _ _ _ _ us hl => match us, hl with | [_, _], _ => rfl) ?a ?l ?c ?k (fun F_way_out => ?r_way_out)
    (case a => k_is)
    (case l => k_is)
    (case c => k_is)
    (case k => k_is)
    refine' FnAt.ofC "are_uses" Lk59.s_are_uses ["scopes", "bindings", "thing"] KX G (fun _ _ _ _ _ _ us hl => match us, hl with | [_, _, _], _ => rfl) ?a ?l ?c ?k (fun F_are_uses => ?r_are_uses)
    (case a => k_is)
    (case l => k_is)
    (case c => k_is)
    (case k => k_is)
    refine' FnAt.ofC "is_tree" Lk59.s_is_tree ["thing"] KX G (fun _ _ _ _ _ _ us hl => match us, hl with | [_], _ => rfl) ?a ?l ?c ?k (fun F_is_tree => ?r_is_tree)
    (case a => k_is)
    (case l => k_is)
    (case c => k_is)
    (case k => k_is)
    refine' FnAt.ofC "is_program" Lk59.s_is_program ["scopes", "bindings", "uses", "outer", "reserved"] KX G (fun _ _ _ _ _ _ us hl => match us, hl with | [_, _, _, _, _], _ => rfl) ?a ?l ?c ?k (fun F_is_program => ?r_is_program)
    (case a => k_is)
    (case l => k_is)
    (case c => k_is)
    (case k => k_is)
    refine' FnMk.ofC "Program" "Program.__init__" Lk59.s_Program___init___x ["self", "scopes", "bindings", "uses", "outer", "reserved"] k_Program m_Program (fun _ _ _ _ _ _ us hl => match us, hl with | [_, _, _, _, _, _], _ => rfl) ?mk ?kp ?a ?i ?l ?c ?k (fun F_Program___init___x => ?r_Program___init___x)
    (case mk => k_is)
    (case kp => k_is)
    (case a => k_is)
    (case i => k_is)
    (case l => k_is)
    (case c => k_is)
    (case k => k_is)
    refine' FnMe.ofC "Registry" "do_create" "Registry.do_create" Lk59.s_Registry_do_create ["self", "name", "root", "reserved"] k_Registry h_Registry (fun _ _ _ _ _ _ us hl => match us, hl with | [_, _, _, _], _ => rfl) ?a ?i ?l ?c ?k (fun F_Registry_do_create => ?r_Registry_do_create)
    (case a => k_is)
    (case i => k_is)
    (case l => k_is)
    (case c => k_is)
    (case k => k_is)
    refine' FnMe.ofC "Registry" "create" "Registry.create" Lk59.s_Registry_create ["self", "name", "root", "reserved"] k_Registry h_Registry (fun _ _ _ _ _ _ us hl => match us, hl with | [_, _, _, _], _ => rfl) ?a ?i ?l ?c ?k (fun F_Registry_create => ?r_Registry_create)
    (case a => k_is)
    (case i => k_is)
    (case l => k_is)
    (case c => k_is)
    (case k => k_is)
    refine' FnAt.ofC "_law_error" Lk59.s__law_error ["_law_caught"] KX G (fun _ _ _ _ _ _ us hl => match us, hl with | [_], _ => rfl) ?a ?l ?c ?k (fun F__law_error => ?r__law_error)
    (case a => k_is)
    (case l => k_is)
    (case c => k_is)
    (case k => k_is)
    refine' FnMe.ofC "Registry" "find" "Registry.find" Lk59.s_Registry_find ["self", "name"] k_Registry h_Registry (fun _ _ _ _ _ _ us hl => match us, hl with | [_, _], _ => rfl) ?a ?i ?l ?c ?k (fun F_Registry_find => ?r_Registry_find)
    (case a => k_is)
    (case i => k_is)
    (case l => k_is)
    (case c => k_is)
    (case k => k_is)
    refine' FnMe.ofC "Registry" "do_remove" "Registry.do_remove" Lk59.s_Registry_do_remove ["self", "name"] k_Registry h_Registry (fun _ _ _ _ _ _ us hl => match us, hl with | [_, _], _ => rfl) ?a ?i ?l ?c ?k (fun F_Registry_do_remove => ?r_Registry_do_remove)
    (case a => k_is)
    (case i => k_is)
    (case l => k_is)
    (case c => k_is)
    (case k => k_is)
    refine' FnMe.ofC "Registry" "remove" "Registry.remove" Lk59.s_Registry_remove ["self", "name"] k_Registry h_Registry (fun _ _ _ _ _ _ us hl => match us, hl with | [_, _], _ => rfl) ?a ?i ?l ?c ?k (fun F_Registry_remove => ?r_Registry_remove)
    (case a => k_is)
    (case i => k_is)
    (case l => k_is)
    (case c => k_is)
    (case k => k_is)
    refine' FnAt.ofC "_law_outcome" Lk59.s__law_outcome ["_law_store", "_law_command_here"] KX G (fun _ _ _ _ _ _ us hl => match us, hl with | [_, _], _ => rfl) ?a ?l ?c ?k (fun F__law_outcome => ?r__law_outcome)
    (case a => k_is)
    (case l => k_is)
    (case c => k_is)
    (case k => k_is)
    refine' FnMe.ofC "Registry" "get_log" "Registry.get_log" Lk59.s_Registry_get_log_m ["self"] k_Registry h_Registry (fun _ _ _ _ _ _ us hl => match us, hl with | [_], _ => rfl) ?a ?i ?l ?c ?k (fun F_Registry_get_log_m => ?r_Registry_get_log_m)
    (case a => k_is)
    (case i => k_is)
    (case l => k_is)
    (case c => k_is)
    (case k => k_is)
    refine' FnMe.ofC "Registry" "get_names" "Registry.get_names" Lk59.s_Registry_get_names_m ["self"] k_Registry h_Registry (fun _ _ _ _ _ _ us hl => match us, hl with | [_], _ => rfl) ?a ?i ?l ?c ?k (fun F_Registry_get_names_m => ?r_Registry_get_names_m)
    (case a => k_is)
    (case i => k_is)
    (case l => k_is)
    (case c => k_is)
    (case k => k_is)
    refine' FnMe.ofC "Registry" "get_spent" "Registry.get_spent" Lk59.s_Registry_get_spent ["self", "name"] k_Registry h_Registry (fun _ _ _ _ _ _ us hl => match us, hl with | [_, _], _ => rfl) ?a ?i ?l ?c ?k (fun F_Registry_get_spent => ?r_Registry_get_spent)
    (case a => k_is)
    (case i => k_is)
    (case l => k_is)
    (case c => k_is)
    (case k => k_is)
    refine' FnMe.ofC "Registry" "get_prices" "Registry.get_prices" Lk59.s_Registry_get_prices ["self", "name"] k_Registry h_Registry (fun _ _ _ _ _ _ us hl => match us, hl with | [_, _], _ => rfl) ?a ?i ?l ?c ?k (fun F_Registry_get_prices => ?r_Registry_get_prices)
    (case a => k_is)
    (case i => k_is)
    (case l => k_is)
    (case c => k_is)
    (case k => k_is)
    refine' FnMe.ofC "Program" "parts" "Program.parts" Lk59.s_Program_parts ["self"] k_Program h_Program (fun _ _ _ _ _ _ us hl => match us, hl with | [_], _ => rfl) ?a ?i ?l ?c ?k (fun F_Program_parts => ?r_Program_parts)
    (case a => k_is)
    (case i => k_is)
    (case l => k_is)
    (case c => k_is)
    (case k => k_is)
    refine' FnMe.ofC "Program" "__eq__" "Program.__eq__" Lk59.s_Program___eq__ ["self", "other"] k_Program h_Program (fun _ _ _ _ _ _ us hl => match us, hl with | [_, _], _ => rfl) ?a ?i ?l ?c ?k (fun F_Program___eq__ => ?r_Program___eq__)
    (case a => k_is)
    (case i => k_is)
    (case l => k_is)
    (case c => k_is)
    (case k => k_is)
    refine' FnMe.ofC "Registry" "get_program" "Registry.get_program" Lk59.s_Registry_get_program ["self", "name"] k_Registry h_Registry (fun _ _ _ _ _ _ us hl => match us, hl with | [_, _], _ => rfl) ?a ?i ?l ?c ?k (fun F_Registry_get_program => ?r_Registry_get_program)
    (case a => k_is)
    (case i => k_is)
    (case l => k_is)
    (case c => k_is)
    (case k => k_is)
    refine' FnAt.ofC "_law_same" Lk59.s__law_same ["_law_store", "_law_state"] KX G (fun _ _ _ _ _ _ us hl => match us, hl with | [_, _], _ => rfl) ?a ?l ?c ?k (fun F__law_same => ?r__law_same)
    (case a => k_is)
    (case l => k_is)
    (case c => k_is)
    (case k => k_is)
    refine' FnAt.ofC "_law_has" Lk59.s__law_has ["_law_some", "_law_nym"] KX G (fun _ _ _ _ _ _ us hl => match us, hl with | [_, _], _ => rfl) ?a ?l ?c ?k (fun F__law_has => ?r__law_has)
    (case a => k_is)
    (case l => k_is)
    (case c => k_is)
    (case k => k_is)
    refine' FnMk.ofC "Program" "Program.__init__" Lk59.s_Program___init__ ["self", "scopes", "bindings", "uses", "outer", "reserved"] k_Program m_Program (fun _ _ _ _ _ _ us hl => match us, hl with | [_, _, _, _, _, _], _ => rfl) ?mk ?kp ?a ?i ?l ?c ?k (fun F_Program___init__ => ?r_Program___init__)
    (case mk => k_is)
    (case kp => k_is)
    (case a => k_is)
    (case i => k_is)
    (case l => k_is)
    (case c => k_is)
    (case k => k_is)
    refine' FnAt.ofC "_law_is_word" Lk59.s__law_is_word ["_law_thing"] KX G (fun _ _ _ _ _ _ us hl => match us, hl with | [_], _ => rfl) ?a ?l ?c ?k (fun F__law_is_word => ?r__law_is_word)
    (case a => k_is)
    (case l => k_is)
    (case c => k_is)
    (case k => k_is)
    refine' FnAt.ofC "_law_new_name" Lk59.s__law_new_name ["_law_nym", "_law_existing"] KX G (fun _ _ _ _ _ _ us hl => match us, hl with | [_, _], _ => rfl) ?a ?l ?c ?k (fun F__law_new_name => ?r__law_new_name)
    (case a => k_is)
    (case l => k_is)
    (case c => k_is)
    (case k => k_is)
    refine' FnAt.ofC "_law_due" Lk59.s__law_due ["_law_state", "_law_command_here"] KX G (fun _ _ _ _ _ _ us hl => match us, hl with | [_, _], _ => rfl) ?a ?l ?c ?k (fun F__law_due => ?r__law_due)
    (case a => k_is)
    (case l => k_is)
    (case c => k_is)
    (case k => k_is)
    refine' FnAt.ofC "_law_next" Lk59.s__law_next ["_law_pen_here"] KX G (fun _ _ _ _ _ _ us hl => match us, hl with | [_], _ => rfl) ?a ?l ?c ?k (fun F__law_next => ?r__law_next)
    (case a => k_is)
    (case l => k_is)
    (case c => k_is)
    (case k => k_is)
    refine' FnAt.ofC "_law_draw" Lk59.s__law_draw ["_law_pen_here", "_law_below"] KX G (fun _ _ _ _ _ _ us hl => match us, hl with | [_, _], _ => rfl) ?a ?l ?c ?k (fun F__law_draw => ?r__law_draw)
    (case a => k_is)
    (case l => k_is)
    (case c => k_is)
    (case k => k_is)
    refine' FnAt.ofC "_law_command" Lk59.s__law_command ["_law_pen_here"] KX G (fun _ _ _ _ _ _ us hl => match us, hl with | [_], _ => rfl) ?a ?l ?c ?k (fun F__law_command => ?r__law_command)
    (case a => k_is)
    (case l => k_is)
    (case c => k_is)
    (case k => k_is)
    refine' FnAt.ofC "_law_pen" Lk59.s__law_pen ["_law_script"] KX G (fun _ _ _ _ _ _ us hl => match us, hl with | [_], _ => rfl) ?a ?l ?c ?k (fun F__law_pen => ?r__law_pen)
    (case a => k_is)
    (case l => k_is)
    (case c => k_is)
    (case k => k_is)
    refine' FnAt.ofC "law" Lk59.s_law ["_law_script"] KX G (fun _ _ _ _ _ _ us hl => match us, hl with | [_], _ => rfl) ?a ?l ?c ?k (fun F_law => ?r_law)
    (case a => k_is)
    (case l => k_is)
    (case c => k_is)
    (case k => k_is)
    have C_Registry_get_log := Lk59.ok_Registry_get_log (P := PySem.Challenge.pw_scopenames_k59_create_and_remove) (w := w) (base := base) T F_Registry_get_log
    have C_Registry___init__ := Lk59.ok_Registry___init__ (P := PySem.Challenge.pw_scopenames_k59_create_and_remove) (w := w) (base := base) T F_Registry___init__
    have C_Registry_get_names := Lk59.ok_Registry_get_names (P := PySem.Challenge.pw_scopenames_k59_create_and_remove) (w := w) (base := base) T F_Registry_get_names
    have C_Registry_logged := Lk59.ok_Registry_logged (P := PySem.Challenge.pw_scopenames_k59_create_and_remove) (w := w) (base := base) T F_Registry_logged
    have C_Registry_do_back := Lk59.ok_Registry_do_back (P := PySem.Challenge.pw_scopenames_k59_create_and_remove) (w := w) (base := base) T F_Registry_do_back
    have C_Registry_back := Lk59.ok_Registry_back (P := PySem.Challenge.pw_scopenames_k59_create_and_remove) (w := w) (base := base) T F_Registry_back C_Registry_logged C_Registry_do_back
    have C_is_word := Lk59.ok_is_word (P := PySem.Challenge.pw_scopenames_k59_create_and_remove) (w := w) (base := base) T F_is_word
    have C_check_new := Lk59.ok_check_new (P := PySem.Challenge.pw_scopenames_k59_create_and_remove) (w := w) (base := base) T F_check_new C_is_word
    have C_Registry_do_mark := Lk59.ok_Registry_do_mark (P := PySem.Challenge.pw_scopenames_k59_create_and_remove) (w := w) (base := base) T F_Registry_do_mark C_check_new
    have C_Registry_mark := Lk59.ok_Registry_mark (P := PySem.Challenge.pw_scopenames_k59_create_and_remove) (w := w) (base := base) T F_Registry_mark C_Registry_logged C_Registry_do_mark
    have C_Entry___init__ := Lk59.ok_Entry___init__ (P := PySem.Challenge.pw_scopenames_k59_create_and_remove) (w := w) (base := base) T F_Entry___init__
    have C_ascending := Lk59.ok_ascending (P := PySem.Challenge.pw_scopenames_k59_create_and_remove) (w := w) (base := base) T F_ascending
    have C_are_words := Lk59.ok_are_words (P := PySem.Challenge.pw_scopenames_k59_create_and_remove) (w := w) (base := base) T F_are_words C_is_word
    have C_is_key := Lk59.ok_is_key (P := PySem.Challenge.pw_scopenames_k59_create_and_remove) (w := w) (base := base) T F_is_key
    have C_is_pair := Lk59.ok_is_pair (P := PySem.Challenge.pw_scopenames_k59_create_and_remove) (w := w) (base := base) T F_is_pair
    have C_are_bindings := Lk59.ok_are_bindings (P := PySem.Challenge.pw_scopenames_k59_create_and_remove) (w := w) (base := base) T F_are_bindings C_is_word C_is_key C_is_pair
    have C_way_out := Lk59.ok_way_out (P := PySem.Challenge.pw_scopenames_k59_create_and_remove) (w := w) (base := base) T F_way_out
    have C_are_uses := Lk59.ok_are_uses (P := PySem.Challenge.pw_scopenames_k59_create_and_remove) (w := w) (base := base) T F_are_uses C_way_out C_is_key C_is_pair C_is_word
    have C_is_tree := Lk59.ok_is_tree (P := PySem.Challenge.pw_scopenames_k59_create_and_remove) (w := w) (base := base) T F_is_tree C_way_out C_is_key C_is_word
    have C_is_program := Lk59.ok_is_program (P := PySem.Challenge.pw_scopenames_k59_create_and_remove) (w := w) (base := base) T F_is_program C_are_words C_are_bindings C_are_uses C_is_tree
    have C_Program___init___x := Lk59.ok_Program___init___x (P := PySem.Challenge.pw_scopenames_k59_create_and_remove) (w := w) (base := base) T F_Program___init___x C_ascending C_is_program
    have C_Registry_do_create := Lk59.ok_Registry_do_create (P := PySem.Challenge.pw_scopenames_k59_create_and_remove) (w := w) (base := base) T F_Registry_do_create C_Entry___init__ C_Program___init___x C_check_new
    have C_Registry_create := Lk59.ok_Registry_create (P := PySem.Challenge.pw_scopenames_k59_create_and_remove) (w := w) (base := base) T F_Registry_create C_Registry_logged C_Registry_do_create
    have C__law_error := Lk59.ok__law_error (P := PySem.Challenge.pw_scopenames_k59_create_and_remove) (w := w) (base := base) T F__law_error
    have C_Registry_find := Lk59.ok_Registry_find (P := PySem.Challenge.pw_scopenames_k59_create_and_remove) (w := w) (base := base) T F_Registry_find
    have C_Registry_do_remove := Lk59.ok_Registry_do_remove (P := PySem.Challenge.pw_scopenames_k59_create_and_remove) (w := w) (base := base) T F_Registry_do_remove C_Registry_find
    have C_Registry_remove := Lk59.ok_Registry_remove (P := PySem.Challenge.pw_scopenames_k59_create_and_remove) (w := w) (base := base) T F_Registry_remove C_Registry_logged C_Registry_do_remove
    have C__law_outcome := Lk59.ok__law_outcome (P := PySem.Challenge.pw_scopenames_k59_create_and_remove) (w := w) (base := base) T F__law_outcome C__law_error C_Registry_create C_Registry_remove
    have C_Registry_get_log_m := Lk59.ok_Registry_get_log_m (P := PySem.Challenge.pw_scopenames_k59_create_and_remove) (w := w) (base := base) T F_Registry_get_log_m
    have C_Registry_get_names_m := Lk59.ok_Registry_get_names_m (P := PySem.Challenge.pw_scopenames_k59_create_and_remove) (w := w) (base := base) T F_Registry_get_names_m
    have C_Registry_get_spent := Lk59.ok_Registry_get_spent (P := PySem.Challenge.pw_scopenames_k59_create_and_remove) (w := w) (base := base) T F_Registry_get_spent C_Registry_find
    have C_Registry_get_prices := Lk59.ok_Registry_get_prices (P := PySem.Challenge.pw_scopenames_k59_create_and_remove) (w := w) (base := base) T F_Registry_get_prices C_Registry_find
    have C_Program_parts := Lk59.ok_Program_parts (P := PySem.Challenge.pw_scopenames_k59_create_and_remove) (w := w) (base := base) T F_Program_parts
    have C_Program___eq__ := Lk59.ok_Program___eq__ (P := PySem.Challenge.pw_scopenames_k59_create_and_remove) (w := w) (base := base) T F_Program___eq__ C_Program_parts
    have C_Registry_get_program := Lk59.ok_Registry_get_program (P := PySem.Challenge.pw_scopenames_k59_create_and_remove) (w := w) (base := base) T F_Registry_get_program C_Registry_find
    have C__law_same := Lk59.ok__law_same (P := PySem.Challenge.pw_scopenames_k59_create_and_remove) (w := w) (base := base) T F__law_same C_Registry_get_spent C_Registry_get_prices C_Program___eq__ C_Registry_get_program C_Registry_get_log C_Registry_get_names
    have C__law_has := Lk59.ok__law_has (P := PySem.Challenge.pw_scopenames_k59_create_and_remove) (w := w) (base := base) T F__law_has
    have C_Program___init__ := Lk59.ok_Program___init__ (P := PySem.Challenge.pw_scopenames_k59_create_and_remove) (w := w) (base := base) T F_Program___init__ C_ascending C_is_program
    have C__law_is_word := Lk59.ok__law_is_word (P := PySem.Challenge.pw_scopenames_k59_create_and_remove) (w := w) (base := base) T F__law_is_word
    have C__law_new_name := Lk59.ok__law_new_name (P := PySem.Challenge.pw_scopenames_k59_create_and_remove) (w := w) (base := base) T F__law_new_name C__law_is_word
    have C__law_due := Lk59.ok__law_due (P := PySem.Challenge.pw_scopenames_k59_create_and_remove) (w := w) (base := base) T F__law_due C__law_has C_Program___init__ C__law_is_word C__law_new_name
    have C__law_next := Lk59.ok__law_next (P := PySem.Challenge.pw_scopenames_k59_create_and_remove) (w := w) (base := base) T F__law_next
    have C__law_draw := Lk59.ok__law_draw (P := PySem.Challenge.pw_scopenames_k59_create_and_remove) (w := w) (base := base) T F__law_draw C__law_next
    have C__law_command := Lk59.ok__law_command (P := PySem.Challenge.pw_scopenames_k59_create_and_remove) (w := w) (base := base) T F__law_command C__law_draw
    have C__law_pen := Lk59.ok__law_pen (P := PySem.Challenge.pw_scopenames_k59_create_and_remove) (w := w) (base := base) T F__law_pen
    have C_law := Lk59.ok_law (P := PySem.Challenge.pw_scopenames_k59_create_and_remove) (w := w) (base := base) T F_law C_Registry_get_log C_Registry___init__ C_Registry_get_names C_Registry_back C_Registry_mark C_Registry_create C__law_outcome C_Registry_get_log_m C_Registry_get_names_m C__law_same C__law_due C__law_command C__law_pen
    exact C_law
#print axioms PySem.Challenge.cw_scopenames_k59_create_and_remove_holds
